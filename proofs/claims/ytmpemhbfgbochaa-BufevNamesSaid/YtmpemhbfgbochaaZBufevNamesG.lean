/-
  Buffered events: set, New, Lens, Deadline, Read, Write, Timeouts. Buffered events: Lens, Deadline, Read, Write, Timeouts. Buffered events: Enable, Disable, Enabled, Marks. Buffered events: Wants, stop, Late.
-/
import Derived.Test.YtmpemhbfgbochaaZBufevNamesF
namespace Go.Proofs.Ytmpemhbfgbochaa
set_option linter.unusedSimpArgs false
set_option linter.unusedVariables false
set_option linter.unnecessarySimpa false
open Go.RX Fx
namespace Bu
open Wo
set_option maxRecDepth 8000
abbrev NV : Int := 18446744073709551615
def dl (now after : Int) : Int := if 18446744073709551615 - now < after then 18446744073709551615 else now + after
set_option maxHeartbeats 2000000 in
theorem dl_ct (L : List SP) (now after : Int) (hn : InK .u64 now) (ha : InK .u64 after) : Ct Try.prog 59 #[.int .u64 now, .int .u64 after] (L) (fun _ : Unit => .int .u64 (dl now after)) (fun _ : Unit => L) := by
  refine Ct.of (vs := [.int .u64 now, .int .u64 after]) Try.func59 rfl rfl [(0, .int .u64 now), (1, .int .u64 after)] (by repeat (first | exact trivial | refine ⟨rfl, ?_⟩)) ?_
  intro E
  show Hd E 12 _ _ _ _
  simp only [InK] at hn ha
  refine Hd.seq (fun K1 hK1 => ?_)
  refine Hd.region ?_
  refine Hd.yv (y_assign rfl) ?_
  refine Hd.nil ?_
  refine Hd.slots [(0, _), (1, _)] ⟨rfl, rfl, trivial⟩ ?_
  refine Hd.toK hK1 ?_
  refine Hd.seq (fun K2 hK2 => ?_)
  refine Hd.seq (fun K3 hK3 => ?_)
  refine Hd.region ?_
  refine Hd.yv (y_move rfl) ?_
  refine Hd.yv (y_move rfl) ?_
  first | (refine Hd.yv (y_subn rfl rfl (by simp only [InK]; omega)) ?_) | (refine Hd.yv (y_sub rfl rfl) ?_)
  refine Hd.yv (y_gtr rfl rfl) ?_
  refine Hd.nil ?_
  refine Hd.slots [(0, _), (1, _), (8, _)] ⟨rfl, rfl, rfl, trivial⟩ ?_
  refine Hd.toK hK3 ?_
  refine Hd.cond rfl (fun hc0 => ?_) (fun hc0 => ?_)
  ·
    try simp only [decide_eq_true_eq, decide_eq_false_iff_not, Bool.and_eq_true, Bool.or_eq_true, Bool.and_eq_false_iff, Bool.or_eq_false_iff, Bool.not_eq_true', Bool.not_eq_false', Bool.not_eq_true, Bool.not_eq_false, Int.not_lt, Int.not_le, Decidable.not_not, ne_eq] at hc0
    refine Hd.seq (fun K4 hK4 => ?_)
    refine Hd.region ?_
    refine Hd.yv (y_assign rfl) ?_
    refine Hd.nil ?_
    refine Hd.slots [(4, _)] ⟨rfl, trivial⟩ ?_
    refine Hd.toK hK4 ?_
    refine Hd.ret ?_
    refine Hd.thenRet ?_
    clear hK1 hK2 hK3 hK4
    exact Hd.ret1 rfl () (by unfold dl; rw [if_pos (by omega)]; rfl) (Ent.sep enn)
  ·
    try simp only [decide_eq_true_eq, decide_eq_false_iff_not, Bool.and_eq_true, Bool.or_eq_true, Bool.and_eq_false_iff, Bool.or_eq_false_iff, Bool.not_eq_true', Bool.not_eq_false', Bool.not_eq_true, Bool.not_eq_false, Int.not_lt, Int.not_le, Decidable.not_not, ne_eq] at hc0
    refine Hd.skip ?_
    refine Hd.toK hK2 ?_
    refine Hd.seq (fun K5 hK5 => ?_)
    refine Hd.region ?_
    refine Hd.yv (y_move rfl) ?_
    refine Hd.yv (y_move rfl) ?_
    first | (refine Hd.yv (y_addn rfl rfl (by simp only [InK]; omega)) ?_) | (refine Hd.yv (y_add rfl rfl) ?_)
    refine Hd.yv (y_assign rfl) ?_
    refine Hd.nil ?_
    refine Hd.slots [(4, _)] ⟨rfl, trivial⟩ ?_
    refine Hd.toK hK5 ?_
    refine Hd.ret ?_
    clear hK1 hK2 hK3 hK5
    exact Hd.ret1 rfl () (by unfold dl; rw [if_neg (by omega)]; rfl) (Ent.sep enn)
def BfA.up (x : BfA) (k : Nat) (f : SdA → SdA) : BfA := { x with s := fun j => if j = k then f (x.s j) else x.s j }
theorem bup_at (x : BfA) (k : Nat) (f : SdA → SdA) : (x.up k f).s k = f (x.s k) := if_pos rfl
theorem bup_ne (x : BfA) {k j : Nat} (f : SdA → SdA) (h : j ≠ k) : (x.up k f).s j = x.s j := if_neg h
def atV (s : SdA) (k : Nat) (now : Int) : Int := if ((s.on && decide (s.after ≠ 0)) && (decide ((k : Int) = 0) || decide ((s.c.length : Int) > 0))) = true then dl now s.after else NV
abbrev setA (k : Nat) (now : Int) (s : SdA) : SdA := { s with at_ := atV s k now }
set_option maxHeartbeats 2000000 in
theorem set_ct (L : List SP) (b k : Nat) (hk : k < 2) (s : SdA) (now : Int) (hn : InK .u64 now) (ha : InK .u64 s.after) : Ct Try.prog 39 #[.pointer (some ⟨b, 0, none⟩), .int .i64 (k : Int), .int .u64 now] (SdL b k s L) (fun _ : Unit => .tuple #[]) (fun _ : Unit => SdL b k (setA k now s) L) := by
  refine Ct.of (vs := [.pointer (some ⟨b, 0, none⟩), .int .i64 (k : Int), .int .u64 now]) Try.func39 rfl rfl [(0, .pointer (some ⟨b, 0, none⟩)), (1, .int .i64 (k : Int)), (2, .int .u64 now)] (by repeat (first | exact trivial | refine ⟨rfl, ?_⟩)) ?_
  intro E
  show Hd E 46 _ _ _ _
  refine Hd.seq (fun K1 hK1 => ?_)
  refine Hd.region ?_
  refine Hd.yv (y_move rfl) ?_
  refine Hd.yv (y_move rfl) ?_
  refine Hd.yv (y_nilp rfl) ?_
  first | (refine Hd.yv (y_field' (q := 2) (ft := 92) Try.underlying94 rfl sz92 rfl rfl) ?_) | (refine Hd.yv (y_fieldR (q := 2) (ft := 92) Try.underlying94 rfl sz92 rfl rfl) ?_)
  refine Hd.yv (y_idxA Try.underlying92 sz91 rfl rfl (by first | omega | decide)) ?_
  refine Hd.yv (y_assign rfl) ?_
  refine Hd.nil ?_
  refine Hd.slots [(1, _), (2, _), (6, _)] ⟨rfl, rfl, rfl, trivial⟩ ?_
  refine Hd.toK hK1 ?_
  refine Hd.seq (fun K2 hK2 => ?_)
  refine Hd.region ?_
  refine Hd.yv (y_move rfl) ?_
  refine Hd.yv (y_nilp rfl) ?_
  first | (refine Hd.yv (y_field' (q := 7) (ft := 35) Try.underlying91 rfl sz35 rfl rfl) ?_) | (refine Hd.yv (y_fieldR (q := 7) (ft := 35) Try.underlying91 rfl sz35 rfl rfl) ?_)
  first | (refine Hd.store1 sz35 rfl rfl rfl pkk (by first | decide | (simp; done) | (simp; omega)) ?_) | (refine Hd.storeG1 sz35 rfl rfl rfl pkk (by first | decide | (simp; done) | (simp; omega)) ?_) | (refine Hd.storeO1 sz35 rfl rfl rfl pkk (by first | omega | (simp; done) | (simp; omega)) ?_) | (refine Hd.storeK1 sz35 rfl rfl rfl pkk (by decide) (by first | decide | (simp; done) | (simp; omega)) ?_)
  try simp only [List.set_cons_zero, List.set_cons_succ]
  refine Hd.nil ?_
  refine Hd.slots [(1, _), (2, _), (6, _)] ⟨rfl, rfl, rfl, trivial⟩ ?_
  refine Hd.toK hK2 ?_
  refine Hd.seq (fun K3 hK3 => ?_)
  refine Hd.region ?_
  refine Hd.yv (y_move rfl) ?_
  refine Hd.yv (y_nilp rfl) ?_
  first | (refine Hd.yv (y_field' (q := 2) (ft := 4) Try.underlying91 rfl sz4 rfl rfl) ?_) | (refine Hd.yv (y_fieldR (q := 2) (ft := 4) Try.underlying91 rfl sz4 rfl rfl) ?_)
  first | (refine Hd.yv (y_load1 ag4 rfl (Rd.pt1 pkk (by (first | rfl)))) ?_) | (refine Hd.yv (y_load1 ag4 rfl (Rd.seg1 pkk (by (first | rfl)))) ?_) | (refine Hd.yv (y_load1 ag4 rfl (Rd.segK1 pkk (by decide) (by (first | rfl)))) ?_) | (refine Hd.yv (y_loadR1 ag4 rfl (by (first | exact RdS.own pkk)) (by (first | rfl))) ?_)
  refine Hd.yv (y_move rfl) ?_
  apply Hd.andg 6 19 25 [(1, _), (2, _), (6, _)] rfl ⟨rfl, rfl, rfl, trivial⟩
  · intro hg2_19
    try simp only [decide_eq_true_eq, decide_eq_false_iff_not, Bool.and_eq_true, Bool.or_eq_true, Bool.and_eq_false_iff, Bool.or_eq_false_iff, Bool.not_eq_true', Bool.not_eq_false', Bool.not_eq_true, Bool.not_eq_false, Int.not_lt, Int.not_le, Decidable.not_not, ne_eq] at hg2_19
    simp only [List.take]
    refine Hd.yg rfl rfl (y_move rfl) ?_
    refine Hd.yg rfl rfl (y_nilp rfl) ?_
    first | (refine Hd.yg rfl rfl (y_field' (q := 6) (ft := 35) Try.underlying91 rfl sz35 rfl rfl) ?_) | (refine Hd.yg rfl rfl (y_fieldR (q := 6) (ft := 35) Try.underlying91 rfl sz35 rfl rfl) ?_)
    first | (refine Hd.yg rfl rfl (y_load1 ag35 rfl (Rd.pt1 pkk (by (first | rfl)))) ?_) | (refine Hd.yg rfl rfl (y_load1 ag35 rfl (Rd.seg1 pkk (by (first | rfl)))) ?_) | (refine Hd.yg rfl rfl (y_load1 ag35 rfl (Rd.segK1 pkk (by decide) (by (first | rfl)))) ?_) | (refine Hd.yg rfl rfl (y_loadR1 ag35 rfl (by (first | exact RdS.own pkk)) (by (first | rfl))) ?_)
    refine Hd.yg rfl rfl (y_neq rfl rfl) ?_
    first | (refine Hd.yv (y_pickT rfl rfl) ?_) | (refine Hd.yv (y_pickF rfl rfl) ?_) | (refine Hd.yv (y_pickb rfl rfl rfl) ?_) | (refine Hd.yv (y_pick rfl rfl rfl) ?_)
    refine Hd.nil ?_
    exact Hd.mend (by repeat (first | exact trivial | refine ⟨rfl, ?_⟩)) (Ent.sep enn)
  · intro hg2_19
    try simp only [decide_eq_true_eq, decide_eq_false_iff_not, Bool.and_eq_true, Bool.or_eq_true, Bool.and_eq_false_iff, Bool.or_eq_false_iff, Bool.not_eq_true', Bool.not_eq_false', Bool.not_eq_true, Bool.not_eq_false, Int.not_lt, Int.not_le, Decidable.not_not, ne_eq] at hg2_19
    simp only [List.take]
    refine Hd.ng rfl rfl rfl ?_
    refine Hd.ng rfl rfl rfl ?_
    refine Hd.ng rfl rfl rfl ?_
    refine Hd.ng rfl rfl rfl ?_
    refine Hd.ng rfl rfl rfl ?_
    first | (refine Hd.yv (y_pickT rfl rfl) ?_) | (refine Hd.yv (y_pickF rfl rfl) ?_) | (refine Hd.yv (y_pickb rfl rfl rfl) ?_) | (refine Hd.yv (y_pick rfl rfl rfl) ?_)
    refine Hd.nil ?_
    exact Hd.mend (by repeat (first | exact trivial | refine ⟨rfl, ?_⟩)) (Ent.sep enn)
  simp only [List.drop]
  refine Hd.yv (y_move rfl) ?_
  apply Hd.andg (q := (decide ((k : Int) = 0) || decide ((s.c.length : Int) > 0))) 10 26 36 [(2, _), (6, _)] rfl ⟨rfl, rfl, trivial⟩
  · intro hg2_26
    try simp only [decide_eq_true_eq, decide_eq_false_iff_not, Bool.and_eq_true, Bool.or_eq_true, Bool.and_eq_false_iff, Bool.or_eq_false_iff, Bool.not_eq_true', Bool.not_eq_false', Bool.not_eq_true, Bool.not_eq_false, Int.not_lt, Int.not_le, Decidable.not_not, ne_eq] at hg2_26
    simp only [List.take]
    refine Hd.yg rfl rfl (y_move rfl) ?_
    first | (refine Hd.yg rfl rfl (y_eqlT rfl rfl) ?_) | (refine Hd.yg rfl rfl (y_eql rfl rfl) ?_)
    refine Hd.yg rfl rfl (y_move rfl) ?_
    apply Hd.org 6 29 35 [(2, _), (6, _), (26, _)] rfl ⟨rfl, rfl, rfl, trivial⟩
    · intro hg2_29
      try simp only [decide_eq_true_eq, decide_eq_false_iff_not, Bool.and_eq_true, Bool.or_eq_true, Bool.and_eq_false_iff, Bool.or_eq_false_iff, Bool.not_eq_true', Bool.not_eq_false', Bool.not_eq_true, Bool.not_eq_false, Int.not_lt, Int.not_le, Decidable.not_not, ne_eq] at hg2_29
      simp only [List.take]
      refine Hd.ng rfl rfl rfl ?_
      refine Hd.ng rfl rfl rfl ?_
      refine Hd.ng rfl rfl rfl ?_
      refine Hd.ng rfl rfl rfl ?_
      refine Hd.ng rfl rfl rfl ?_
      first | (refine Hd.yg rfl rfl (y_pickT rfl rfl) ?_) | (refine Hd.yg rfl rfl (y_pickF rfl rfl) ?_) | (refine Hd.yg rfl rfl (y_pickb rfl rfl rfl) ?_) | (refine Hd.yg rfl rfl (y_pick rfl rfl rfl) ?_)
      refine Hd.nil ?_
      exact Hd.mend (by repeat (first | exact trivial | refine ⟨rfl, ?_⟩)) (Ent.sep enn)
    · intro hg2_29
      try simp only [decide_eq_true_eq, decide_eq_false_iff_not, Bool.and_eq_true, Bool.or_eq_true, Bool.and_eq_false_iff, Bool.or_eq_false_iff, Bool.not_eq_true', Bool.not_eq_false', Bool.not_eq_true, Bool.not_eq_false, Int.not_lt, Int.not_le, Decidable.not_not, ne_eq] at hg2_29
      simp only [List.take]
      refine Hd.yg rfl rfl (y_move rfl) ?_
      refine Hd.yg rfl rfl (y_nilp rfl) ?_
      first | (refine Hd.yg rfl rfl (y_field' (q := 0) (ft := 89) Try.underlying91 rfl sz89 rfl rfl) ?_) | (refine Hd.yg rfl rfl (y_fieldR (q := 0) (ft := 89) Try.underlying91 rfl sz89 rfl rfl) ?_)
      refine Hd.unguard rfl rfl ?_
      refine Hd.callE rfl fk41 (chLen _ b (2 + k * 8 + 0) s.c) (Ent.sep enn) ?_
      intro _
      refine Hd.yg rfl rfl (y_gtr rfl rfl) ?_
      first | (refine Hd.yg rfl rfl (y_pickT rfl rfl) ?_) | (refine Hd.yg rfl rfl (y_pickF rfl rfl) ?_) | (refine Hd.yg rfl rfl (y_pickb rfl rfl rfl) ?_) | (refine Hd.yg rfl rfl (y_pick rfl rfl rfl) ?_)
      refine Hd.nil ?_
      exact Hd.mend (by repeat (first | exact trivial | refine ⟨rfl, ?_⟩)) (Ent.sep enn)
    simp only [List.drop]
    first | (refine Hd.yv (y_pickT rfl rfl) ?_) | (refine Hd.yv (y_pickF rfl rfl) ?_) | (refine Hd.yv (y_pickb rfl rfl rfl) ?_) | (refine Hd.yv (y_pick rfl rfl rfl) ?_)
    refine Hd.nil ?_
    exact Hd.mend (by repeat (first | exact trivial | refine ⟨rfl, ?_⟩)) (Ent.sep enn)
  · intro hg2_26
    try simp only [decide_eq_true_eq, decide_eq_false_iff_not, Bool.and_eq_true, Bool.or_eq_true, Bool.and_eq_false_iff, Bool.or_eq_false_iff, Bool.not_eq_true', Bool.not_eq_false', Bool.not_eq_true, Bool.not_eq_false, Int.not_lt, Int.not_le, Decidable.not_not, ne_eq] at hg2_26
    simp only [List.take]
    refine Hd.ng rfl rfl rfl ?_
    refine Hd.ng rfl rfl rfl ?_
    refine Hd.ng rfl rfl rfl ?_
    refine Hd.ng rfl rfl rfl ?_
    refine Hd.ng rfl rfl rfl ?_
    refine Hd.ng rfl rfl rfl ?_
    refine Hd.ng rfl rfl rfl ?_
    refine Hd.ng rfl rfl rfl ?_
    refine Hd.ng rfl rfl rfl ?_
    first | (refine Hd.yv (y_pickT rfl rfl) ?_) | (refine Hd.yv (y_pickF rfl rfl) ?_) | (refine Hd.yv (y_pickb rfl rfl rfl) ?_) | (refine Hd.yv (y_pick rfl rfl rfl) ?_)
    refine Hd.nil ?_
    exact Hd.mend (by repeat (first | exact trivial | refine ⟨rfl, ?_⟩)) (Ent.sep enn)
  simp only [List.drop]
  refine Hd.nil ?_
  refine Hd.slots [(2, _), (6, _), (36, _)] ⟨rfl, rfl, rfl, trivial⟩ ?_
  refine Hd.toK hK3 ?_
  refine Hd.cond rfl (fun hc0 => ?_) (fun hc0 => ?_)
  ·
    try simp only [decide_eq_true_eq, decide_eq_false_iff_not, Bool.and_eq_true, Bool.or_eq_true, Bool.and_eq_false_iff, Bool.or_eq_false_iff, Bool.not_eq_true', Bool.not_eq_false', Bool.not_eq_true, Bool.not_eq_false, Int.not_lt, Int.not_le, Decidable.not_not, ne_eq] at hc0
    refine Hd.region ?_
    refine Hd.yv (y_move rfl) ?_
    refine Hd.yv (y_move rfl) ?_
    refine Hd.yv (y_move rfl) ?_
    refine Hd.yv (y_nilp rfl) ?_
    first | (refine Hd.yv (y_field' (q := 6) (ft := 35) Try.underlying91 rfl sz35 rfl rfl) ?_) | (refine Hd.yv (y_fieldR (q := 6) (ft := 35) Try.underlying91 rfl sz35 rfl rfl) ?_)
    first | (refine Hd.yv (y_load1 ag35 rfl (Rd.pt1 pkk (by (first | rfl)))) ?_) | (refine Hd.yv (y_load1 ag35 rfl (Rd.seg1 pkk (by (first | rfl)))) ?_) | (refine Hd.yv (y_load1 ag35 rfl (Rd.segK1 pkk (by decide) (by (first | rfl)))) ?_) | (refine Hd.yv (y_loadR1 ag35 rfl (by (first | exact RdS.own pkk)) (by (first | rfl))) ?_)
    refine Hd.callE rfl fk59 (dl_ct _ now s.after hn ha) (Ent.sep enn) ?_
    intro _
    refine Hd.yv (y_nilp rfl) ?_
    first | (refine Hd.yv (y_field' (q := 7) (ft := 35) Try.underlying91 rfl sz35 rfl rfl) ?_) | (refine Hd.yv (y_fieldR (q := 7) (ft := 35) Try.underlying91 rfl sz35 rfl rfl) ?_)
    first | (refine Hd.store1 sz35 rfl rfl rfl pkk (by first | decide | (simp; done) | (simp; omega)) ?_) | (refine Hd.storeG1 sz35 rfl rfl rfl pkk (by first | decide | (simp; done) | (simp; omega)) ?_) | (refine Hd.storeO1 sz35 rfl rfl rfl pkk (by first | omega | (simp; done) | (simp; omega)) ?_) | (refine Hd.storeK1 sz35 rfl rfl rfl pkk (by decide) (by first | decide | (simp; done) | (simp; omega)) ?_)
    try simp only [List.set_cons_zero, List.set_cons_succ]
    refine Hd.nil ?_
    refine Hd.slots [] trivial ?_
    clear hK1 hK2 hK3
    have hv : atV s k now = dl now s.after := by unfold atV; rw [if_pos (by simpa [Bool.and_eq_true, Bool.or_eq_true] using hc0)]
    exact Hd.end0 rfl () rfl (Ent.sep (.pick pkk (.eq pkk (segK_eq (show [Value.bool s.on, .bool s.ended, .int .i64 s.low, .int .i64 s.high, .int .u64 s.after, .int .u64 (dl now s.after)] = encS (setA k now s) by rw [← hv])) enn)))
  ·
    try simp only [decide_eq_true_eq, decide_eq_false_iff_not, Bool.and_eq_true, Bool.or_eq_true, Bool.and_eq_false_iff, Bool.or_eq_false_iff, Bool.not_eq_true', Bool.not_eq_false', Bool.not_eq_true, Bool.not_eq_false, Int.not_lt, Int.not_le, Decidable.not_not, ne_eq] at hc0
    refine Hd.skip ?_
    clear hK1 hK2 hK3
    have hv : atV s k now = NV := by
      unfold atV; rw [if_neg]
      intro h
      simp only [Bool.and_eq_true, Bool.or_eq_true, decide_eq_true_eq] at h
      obtain ⟨⟨h1, h2⟩, h3⟩ := h
      rcases hc0 with (h | h) | h
      · rw [h1] at h; cases h
      · exact h2 h
      · omega
    exact Hd.end0 rfl () rfl (Ent.sep (.pick pkk (.eq pkk (segK_eq (show [Value.bool s.on, .bool s.ended, .int .i64 s.low, .int .i64 s.high, .int .u64 s.after, .int .u64 18446744073709551615] = encS (setA k now s) by show _ = [Value.bool s.on, .bool s.ended, .int .i64 s.low, .int .i64 s.high, .int .u64 s.after, Value.int .u64 (atV s k now)]; rw [hv])) enn)))
def s0 (on : Bool) : SdA := ⟨[], on, false, 0, 0, 0, NV⟩
def newB (fd : Int) : BfA := ⟨fun k => s0 (decide (k = 1)), fd⟩
theorem mkSd_sep {b o : Nat} {on : Bool} {vs : List Value} {L : List SP} {k : PH} (s : sep (seg b o ([.slice none 0 0, .int .i64 0] ++ (encS (s0 on) ++ vs)) :: L) k) :
    sep (ChB b (o + 0) [] :: segK b o 2 (encS (s0 on)) :: seg b (o + 8) vs :: L) k := by
  have s2 : sep (seg b o [.slice none 0 0, .int .i64 0] :: seg b (o + 2) (encS (s0 on) ++ vs) :: L) k := seg_split s
  have s3 : sep (seg b o [.slice none 0 0, .int .i64 0] :: seg b (o + 2) (encS (s0 on)) :: seg b (o + 8) vs :: L) k := Ent.imp' .here (fun _ x => x) (fun _ s => seg_split (us := encS (s0 on)) s) s2
  have s5 := Bc.rows_nil s3
  exact Ent.sep (.ex [] (.pure ⟨⟨fun r h => (by cases h), by decide⟩, rfl⟩ (.ex (none, 0) (.pick (.there .here) (.ownNil (.pick .here (.eq .here rfl .same))))))) k s5
theorem Hd.mkBuf {E : World} {n : Nat} {ds : List Deferred} {st : List (Nat × Value)} {L L' : List SP} {K : Act → World → Prop} {b wb : Nat} {fd : Int}
    (p : Pick L (pt b ([.pointer (some ⟨wb, 0, none⟩), .int .i64 fd] ++ ([.slice none 0 0, .int .i64 0] ++ (encS (s0 false) ++ ([.slice none 0 0, .int .i64 0] ++ (encS (s0 true) ++ []))))) 94) L') (h : Hd E n ds st (BufP b wb (newB fd) :: L') K) : Hd E n ds st L K := by
  refine Hd.heap _ (fun k s => ?_) h
  have s1 : sep (seg b 0 [.pointer (some ⟨wb, 0, none⟩), .int .i64 fd] :: seg b 2 ([.slice none 0 0, .int .i64 0] ++ (encS (s0 false) ++ ([.slice none 0 0, .int .i64 0] ++ (encS (s0 true) ++ [])))) :: kd b 18 94 :: L') k := seg_split (pt_open (p.sep s))
  have s2 : sep (seg b 0 [.pointer (some ⟨wb, 0, none⟩), .int .i64 fd] :: ChB b (2 + 0) [] :: segK b 2 2 (encS (s0 false)) :: seg b (2 + 8) ([.slice none 0 0, .int .i64 0] ++ (encS (s0 true) ++ [])) :: kd b 18 94 :: L') k := Ent.imp' .here (fun _ x => x) (fun _ s => mkSd_sep s) s1
  have s3 : sep (seg b 0 [.pointer (some ⟨wb, 0, none⟩), .int .i64 fd] :: ChB b (2 + 0) [] :: segK b 2 2 (encS (s0 false)) :: ChB b (10 + 0) [] :: segK b 10 2 (encS (s0 true)) :: seg b (10 + 8) [] :: kd b 18 94 :: L') k :=
    Ent.imp' .here (fun _ x => x) (fun _ s => Ent.imp' .here (fun _ x => x) (fun _ s => Ent.imp' .here (fun _ x => x) (fun _ s => mkSd_sep s) s) s) s2
  exact Ent.sep (.ex () (.pick (.there (.there (.there (.there (.there (.there .here)))))) (.pick .here (.eq .here rfl (.eq .here rfl (.eq .here rfl (.eq .here rfl (.skip .same)))))))) k s3
set_option maxHeartbeats 2000000 in
theorem bnew_ct (L : List SP) (wb : Nat) (w : WA) (fd : Int) (h : (readyR w fd).op = true) : Ct Try.prog 12 #[.pointer (some ⟨wb, 0, none⟩), .int .i64 fd] (WorldP wb w :: L) (fun b : Nat => .tuple #[.pointer (some ⟨b, 0, none⟩), .int .i64 0]) (fun b : Nat => BufP b wb (newB fd) :: WorldP wb w :: L) := by
  refine Ct.of (vs := [.pointer (some ⟨wb, 0, none⟩), .int .i64 fd]) Try.func12 rfl rfl [(0, .pointer (some ⟨wb, 0, none⟩)), (1, .int .i64 fd)] (by repeat (first | exact trivial | refine ⟨rfl, ?_⟩)) ?_
  intro E
  show Hd E 36 _ _ _ _
  refine Hd.seq (fun K1 hK1 => ?_)
  refine Hd.region ?_
  refine Hd.yv (y_assign rfl) ?_
  refine Hd.yv (y_assign rfl) ?_
  refine Hd.nil ?_
  refine Hd.slots [(0, _), (1, _)] ⟨rfl, rfl, trivial⟩ ?_
  refine Hd.toK hK1 ?_
  refine Hd.seq (fun K2 hK2 => ?_)
  refine Hd.block ?_
  refine Hd.seq (fun K3 hK3 => ?_)
  refine Hd.region ?_
  refine Hd.yv (y_move rfl) ?_
  first | (refine Hd.yv (y_eql_pointer Try.underlying25 rfl rfl) ?_) | (refine Hd.yv (y_eql_one Try.underlying25 sz78 rfl rfl rfl) ?_)
  refine Hd.yv (y_assign rfl) ?_
  refine Hd.nil ?_
  refine Hd.slots [(0, _), (1, _), (7, _)] ⟨rfl, rfl, rfl, trivial⟩ ?_
  refine Hd.toK hK3 ?_
  refine Hd.condF rfl ?_
  refine Hd.seq (fun K4 hK4 => ?_)
  refine Hd.region ?_
  refine Hd.yv (y_move rfl) ?_
  refine Hd.yv (y_move rfl) ?_
  refine Hd.callE rfl fk35 (wready_ct _ wb w fd) (Ent.sep enn) ?_
  intro _
  refine Hd.yv (y_to (v' := .bool true) (y_fieldv1 (q := 0) (ft := 4) (cs := encR (readyR w fd)) Try.underlying85 rfl ag4 rfl rfl) (by rw [h])) ?_
  refine Hd.yv (y_not rfl) ?_
  refine Hd.yv (y_assign rfl) ?_
  refine Hd.nil ?_
  refine Hd.slots [(0, _), (1, _), (10, _)] ⟨rfl, rfl, rfl, trivial⟩ ?_
  refine Hd.toK hK4 ?_
  refine Hd.condF rfl ?_
  refine Hd.skip ?_
  refine Hd.inB ?_
  refine Hd.toK hK2 ?_
  refine Hd.seq (fun K5 hK5 => ?_)
  refine Hd.region ?_
  refine Hd.yv (y_move rfl) ?_
  refine Hd.yv (y_move rfl) ?_
  refine Hd.yv (y_build (vs := [(0, _), (1, _)]) rfl (by first | exact bd12_18 .. | kernel_rfl)) ?_
  refine Hd.box rfl rfl (fun b19 => ?_)
  refine Hd.yv (y_assign rfl) ?_
  refine Hd.nil ?_
  refine Hd.slots [(6, _)] ⟨rfl, trivial⟩ ?_
  refine Hd.toK hK5 ?_
  refine Hd.seq (fun K6 hK6 => ?_)
  refine Hd.drawsH ([]) (fun j => !(([1000] : List Nat).contains j)) mixed ?_
  simp only [List.length, Nat.zero_add, Nat.reduceAdd]
  refine Hd.takeH 0 rfl (by kernel_rfl) (by kernel_rfl) (by kernel_rfl) (by kernel_rfl) (y_move rfl) (fun _ _ => rfl) (Ent.sep enn) ?_
  refine Hd.takeH 1 rfl (by kernel_rfl) (by kernel_rfl) (by kernel_rfl) (by kernel_rfl) (y_move rfl) (fun _ _ => rfl) (Ent.sep enn) ?_
  refine Hd.takeH 2 rfl (by kernel_rfl) (by kernel_rfl) (by kernel_rfl) (by kernel_rfl) (y_nilp rfl) (fun _ _ => rfl) (Ent.sep enn) ?_
  first | (refine Hd.takeH 3 rfl (by kernel_rfl) (by kernel_rfl) (by kernel_rfl) (by kernel_rfl) (y_field' (q := 2) (ft := 92) Try.underlying94 rfl sz92 rfl rfl) (fun _ _ => rfl) (Ent.sep enn) ?_) | (refine Hd.takeH 3 rfl (by kernel_rfl) (by kernel_rfl) (by kernel_rfl) (by kernel_rfl) (y_fieldR (q := 2) (ft := 92) Try.underlying94 rfl sz92 rfl rfl) (fun _ _ => rfl) (Ent.sep enn) ?_)
  refine Hd.takeH 4 rfl (by kernel_rfl) (by kernel_rfl) (by kernel_rfl) (by kernel_rfl) (y_idxA Try.underlying92 sz91 rfl rfl (by first | omega | decide)) (fun _ _ => rfl) (Ent.sep enn) ?_
  first | (refine Hd.takeH 5 rfl (by kernel_rfl) (by kernel_rfl) (by kernel_rfl) (by kernel_rfl) (y_field' (q := 7) (ft := 35) Try.underlying91 rfl sz35 rfl rfl) (fun _ _ => rfl) (Ent.sep enn) ?_) | (refine Hd.takeH 5 rfl (by kernel_rfl) (by kernel_rfl) (by kernel_rfl) (by kernel_rfl) (y_fieldR (q := 7) (ft := 35) Try.underlying91 rfl sz35 rfl rfl) (fun _ _ => rfl) (Ent.sep enn) ?_)
  refine Hd.takeH 7 rfl (by kernel_rfl) (by kernel_rfl) (by kernel_rfl) (by kernel_rfl) (y_nilp rfl) (fun _ _ => rfl) (Ent.sep enn) ?_
  first | (refine Hd.takeH 8 rfl (by kernel_rfl) (by kernel_rfl) (by kernel_rfl) (by kernel_rfl) (y_field' (q := 2) (ft := 92) Try.underlying94 rfl sz92 rfl rfl) (fun _ _ => rfl) (Ent.sep enn) ?_) | (refine Hd.takeH 8 rfl (by kernel_rfl) (by kernel_rfl) (by kernel_rfl) (by kernel_rfl) (y_fieldR (q := 2) (ft := 92) Try.underlying94 rfl sz92 rfl rfl) (fun _ _ => rfl) (Ent.sep enn) ?_)
  refine Hd.onlyH 6 rfl (by kernel_rfl) ?_
  first | (refine Hd.store1 sz35 rfl rfl rfl pkk (by first | decide | (simp; done) | (simp; omega)) ?_) | (refine Hd.storeG1 sz35 rfl rfl rfl pkk (by first | decide | (simp; done) | (simp; omega)) ?_) | (refine Hd.storeO1 sz35 rfl rfl rfl pkk (by first | omega | (simp; done) | (simp; omega)) ?_)
  try simp only [List.set_cons_zero, List.set_cons_succ]
  refine Hd.nil ?_
  refine Hd.thenN ?_
  refine Hd.heldK (J := (fun j => !(([1000] : List Nat).contains j))) (i := 6) (Ent.sep enn) ?_
  refine Hd.takeH 9 rfl (by kernel_rfl) (by kernel_rfl) (by kernel_rfl) (by kernel_rfl) (y_idxA Try.underlying92 sz91 rfl rfl (by first | omega | decide)) (fun _ _ => rfl) (Ent.sep enn) ?_
  first | (refine Hd.takeH 10 rfl (by kernel_rfl) (by kernel_rfl) (by kernel_rfl) (by kernel_rfl) (y_field' (q := 7) (ft := 35) Try.underlying91 rfl sz35 rfl rfl) (fun _ _ => rfl) (Ent.sep enn) ?_) | (refine Hd.takeH 10 rfl (by kernel_rfl) (by kernel_rfl) (by kernel_rfl) (by kernel_rfl) (y_fieldR (q := 7) (ft := 35) Try.underlying91 rfl sz35 rfl rfl) (fun _ _ => rfl) (Ent.sep enn) ?_)
  refine Hd.onlyH 11 rfl (by kernel_rfl) ?_
  first | (refine Hd.store1 sz35 rfl rfl rfl pkk (by first | decide | (simp; done) | (simp; omega)) ?_) | (refine Hd.storeG1 sz35 rfl rfl rfl pkk (by first | decide | (simp; done) | (simp; omega)) ?_) | (refine Hd.storeO1 sz35 rfl rfl rfl pkk (by first | omega | (simp; done) | (simp; omega)) ?_)
  try simp only [List.set_cons_zero, List.set_cons_succ]
  refine Hd.nil ?_
  refine Hd.thenN ?_
  refine Hd.heldK (J := (fun j => !(([1000] : List Nat).contains j))) (i := 11) (Ent.sep enn) ?_
  refine Hd.endH (by kernel_rfl) ?_
  refine Hd.slots [(6, _)] ⟨rfl, trivial⟩ ?_
  refine Hd.toK hK6 ?_
  refine Hd.seq (fun K7 hK7 => ?_)
  refine Hd.region ?_
  refine Hd.yv (y_move rfl) ?_
  refine Hd.yv (y_nilp rfl) ?_
  first | (refine Hd.yv (y_field' (q := 2) (ft := 92) Try.underlying94 rfl sz92 rfl rfl) ?_) | (refine Hd.yv (y_fieldR (q := 2) (ft := 92) Try.underlying94 rfl sz92 rfl rfl) ?_)
  refine Hd.yv (y_idxA Try.underlying92 sz91 rfl rfl (by first | omega | decide)) ?_
  first | (refine Hd.yv (y_field' (q := 2) (ft := 4) Try.underlying91 rfl sz4 rfl rfl) ?_) | (refine Hd.yv (y_fieldR (q := 2) (ft := 4) Try.underlying91 rfl sz4 rfl rfl) ?_)
  first | (refine Hd.store1 sz4 rfl rfl rfl pkk (by first | decide | (simp; done) | (simp; omega)) ?_) | (refine Hd.storeG1 sz4 rfl rfl rfl pkk (by first | decide | (simp; done) | (simp; omega)) ?_) | (refine Hd.storeO1 sz4 rfl rfl rfl pkk (by first | omega | (simp; done) | (simp; omega)) ?_)
  try simp only [List.set_cons_zero, List.set_cons_succ]
  refine Hd.nil ?_
  refine Hd.slots [(6, _)] ⟨rfl, trivial⟩ ?_
  refine Hd.toK hK7 ?_
  refine Hd.seq (fun K8 hK8 => ?_)
  refine Hd.region ?_
  refine Hd.yv (y_move rfl) ?_
  refine Hd.yv (y_assign rfl) ?_
  refine Hd.yv (y_assign rfl) ?_
  refine Hd.nil ?_
  refine Hd.slots [(4, _), (5, _)] ⟨rfl, rfl, trivial⟩ ?_
  refine Hd.toK hK8 ?_
  refine Hd.ret ?_
  clear hK1 hK2 hK3 hK4 hK5 hK6 hK7 hK8
  refine Hd.mkBuf (b := b19) (wb := wb) (fd := fd) (by exact Pick.here) ?_
  exact Hd.ret2 rfl b19 rfl rfl rfl (Ent.sep enn)
end Bu
end Go.Proofs.Ytmpemhbfgbochaa
namespace Go.Proofs.Ytmpemhbfgbochaa
set_option linter.unusedSimpArgs false
set_option linter.unusedVariables false
set_option linter.unnecessarySimpa false
open Go.RX Fx
namespace Bu
open Wo
set_option maxRecDepth 8000
def TmOk (x : BfA) : Prop := ∀ k, k < 2 → InK .u64 (x.s k).after ∧ InK .u64 (x.s k).at_
theorem dl_in {now a : Int} (hn : InK .u64 now) (ha : InK .u64 a) : InK .u64 (dl now a) := by
  simp only [InK] at *; unfold dl; split <;> omega
theorem atV_in {s : SdA} {k : Nat} {now : Int} (hn : InK .u64 now) (ha : InK .u64 s.after) : InK .u64 (atV s k now) := by
  unfold atV; split
  · exact dl_in hn ha
  · simp [InK]
theorem TmOk.up {x : BfA} (h : TmOk x) {k : Nat} {f : SdA → SdA} (hf : ∀ s, InK .u64 s.after → InK .u64 s.at_ → InK .u64 (f s).after ∧ InK .u64 (f s).at_) : TmOk (x.up k f) := fun j hj => by
  by_cases e : j = k
  · subst e; rw [bup_at]; exact hf _ (h j hj).1 (h j hj).2
  · rw [bup_ne _ _ e]; exact h j hj
theorem tm_new (fd : Int) : TmOk (newB fd) := fun k _ => ⟨by show InK .u64 0; simp [InK], by show InK .u64 18446744073709551615; simp [InK]⟩
theorem buf_close {b wb : Nat} {x x' : BfA} {L : List SP} (h0 : x'.s 0 = x.s 0) (h1 : x'.s 1 = x.s 1) (hf : x'.fd = x.fd) : ∀ h, sep (BfL b wb x 0 L) h → sep (BufP b wb x' :: L) h := fun h s => by
  have s' : sep (BfK b :: BfH b wb x.fd :: SdL b 0 (x.s 0) (SdL b 1 (x.s 1) L)) h := s
  rw [← h0, ← h1, ← hf] at s'
  exact Ent.sep (.ex () (show Ent _ ([BfK b, BfH b wb x'.fd, ChB b (2 + 0 * 8 + 0) (x'.s 0).c, segK b (2 + 0 * 8) 2 (encS (x'.s 0)), ChB b (2 + 1 * 8 + 0) (x'.s 1).c, segK b (2 + 1 * 8) 2 (encS (x'.s 1))] ++ L) from enn)) h s'
theorem buf_put {b wb : Nat} {fd : Int} {s0 s1 : SdA} {x' : BfA} {L : List SP} (h0 : x'.s 0 = s0) (h1 : x'.s 1 = s1) (hf : x'.fd = fd) : ∀ h, sep (BfK b :: BfH b wb fd :: SdL b 0 s0 (SdL b 1 s1 L)) h → sep (BufP b wb x' :: L) h := by
  subst h0; subst h1; subst hf
  exact buf_close rfl rfl rfl
def readA (x : BfA) (n : Int) : List UInt8 := if n < 1 then [] else (x.s 0).c.take n.toNat
def readB (x : BfA) (n : Int) : BfA := if n < 1 then x else x.up 0 fun s => { s with c := s.c.drop n.toNat }
set_option maxHeartbeats 2000000 in
theorem bread_ct (L : List SP) (b wb : Nat) (x : BfA) (n : Int) (hn : n ≤ 9223372036854775807) : Ct Try.prog 16 #[.pointer (some ⟨b, 0, none⟩), .int .i64 n] (BufP b wb x :: L) (fun q_ : Option Addr × Nat => .slice q_.1 (readA x n).length q_.2) (fun q_ : Option Addr × Nat => own 5 1 q_.1 (readA x n).length q_.2 (bsl (readA x n)) :: BufP b wb (readB x n) :: L) := by
  refine Ct.of (vs := [.pointer (some ⟨b, 0, none⟩), .int .i64 n]) Try.func16 rfl rfl [(0, .pointer (some ⟨b, 0, none⟩)), (1, .int .i64 n)] (by repeat (first | exact trivial | refine ⟨rfl, ?_⟩)) ?_
  intro E
  show Hd E 18 _ _ _ _
  refine Hd.buf .here ?_
  refine Hd.seq (fun K1 hK1 => ?_)
  refine Hd.region ?_
  refine Hd.yv (y_assign rfl) ?_
  refine Hd.nil ?_
  refine Hd.slots [(0, _), (1, _)] ⟨rfl, rfl, trivial⟩ ?_
  refine Hd.toK hK1 ?_
  refine Hd.seq (fun K2 hK2 => ?_)
  refine Hd.seq (fun K3 hK3 => ?_)
  refine Hd.region ?_
  refine Hd.yv (y_move rfl) ?_
  refine Hd.callE rfl fk36 (bnone_ct _ b wb x.fd) (Ent.sep enn) ?_
  intro _
  refine Hd.yv (y_move rfl) ?_
  refine Hd.yg rfl rfl (y_move rfl) ?_
  refine Hd.yg rfl rfl (y_lss rfl rfl) ?_
  first | (refine Hd.yv (y_pickT rfl rfl) ?_) | (refine Hd.yv (y_pickF rfl rfl) ?_) | (refine Hd.yv (y_pickb rfl rfl rfl) ?_) | (refine Hd.yv (y_pick rfl rfl rfl) ?_)
  refine Hd.nil ?_
  refine Hd.slots [(0, _), (1, _), (10, _)] ⟨rfl, rfl, rfl, trivial⟩ ?_
  refine Hd.toK hK3 ?_
  refine Hd.cond rfl (fun hc0 => ?_) (fun hc0 => ?_)
  ·
    try simp only [decide_eq_true_eq, decide_eq_false_iff_not, Bool.and_eq_true, Bool.or_eq_true, Bool.and_eq_false_iff, Bool.or_eq_false_iff, Bool.not_eq_true', Bool.not_eq_false', Bool.not_eq_true, Bool.not_eq_false, Int.not_lt, Int.not_le, Decidable.not_not, ne_eq] at hc0
    refine Hd.seq (fun K4 hK4 => ?_)
    refine Hd.region ?_
    refine Hd.yv (y_assign rfl) ?_
    refine Hd.nil ?_
    refine Hd.slots [(4, _)] ⟨rfl, trivial⟩ ?_
    refine Hd.toK hK4 ?_
    refine Hd.ret ?_
    refine Hd.thenRet ?_
    clear hK1 hK2 hK3 hK4
    rw [show readA x n = [] by unfold readA; rw [if_pos hc0], show readB x n = x by unfold readB; rw [if_pos hc0]]
    exact Hd.ret1 rfl (none, 0) rfl (Ent.sep (.ownNil .same) |> fun h q s => h q (buf_close rfl rfl rfl q (Ent.sep enn q s)))
  ·
    try simp only [decide_eq_true_eq, decide_eq_false_iff_not, Bool.and_eq_true, Bool.or_eq_true, Bool.and_eq_false_iff, Bool.or_eq_false_iff, Bool.not_eq_true', Bool.not_eq_false', Bool.not_eq_true, Bool.not_eq_false, Int.not_lt, Int.not_le, Decidable.not_not, ne_eq] at hc0
    refine Hd.skip ?_
    refine Hd.toK hK2 ?_
    refine Hd.seq (fun K5 hK5 => ?_)
    refine Hd.region ?_
    refine Hd.yv (y_move rfl) ?_
    refine Hd.yv (y_nilp rfl) ?_
    first | (refine Hd.yv (y_field' (q := 2) (ft := 92) Try.underlying94 rfl sz92 rfl rfl) ?_) | (refine Hd.yv (y_fieldR (q := 2) (ft := 92) Try.underlying94 rfl sz92 rfl rfl) ?_)
    refine Hd.yv (y_idxA Try.underlying92 sz91 rfl rfl (by first | omega | decide)) ?_
    first | (refine Hd.yv (y_field' (q := 0) (ft := 89) Try.underlying91 rfl sz89 rfl rfl) ?_) | (refine Hd.yv (y_fieldR (q := 0) (ft := 89) Try.underlying91 rfl sz89 rfl rfl) ?_)
    refine Hd.yv (y_move rfl) ?_
    refine Hd.callE rfl fk40 (chTake _ b (2 + 0 * 8 + 0) (x.s 0).c n hn) (Ent.sep enn) ?_
    rintro ⟨ad, c⟩
    dsimp only
    refine Hd.yv (y_assign rfl) ?_
    refine Hd.nil ?_
    refine Hd.slots [(4, _)] ⟨rfl, trivial⟩ ?_
    refine Hd.toK hK5 ?_
    refine Hd.ret ?_
    clear hK1 hK2 hK3 hK5
    rw [show readA x n = (x.s 0).c.take n.toNat by unfold readA; rw [if_neg (by omega)], show readB x n = x.up 0 fun s => { s with c := s.c.drop n.toNat } by unfold readB; rw [if_neg (by omega)]]
    exact Hd.ret1 rfl (ad, c) rfl (fun q s => Ent.sep (show Ent (BufP b wb (x.up 0 fun s => { s with c := s.c.drop n.toNat }) :: own 5 1 ad ((x.s 0).c.take n.toNat).length c (bsl ((x.s 0).c.take n.toNat)) :: L) _ from enn) q (buf_put (fd := x.fd) (x' := x.up 0 fun s => { s with c := s.c.drop n.toNat }) (s0 := { x.s 0 with c := (x.s 0).c.drop n.toNat }) (s1 := x.s 1) rfl rfl rfl q (Ent.sep enn q s)))
def wrE (x : BfA) (bs : List UInt8) : Int := addE (x.s 1).c bs
def wrB (x : BfA) (now : Int) (bs : List UInt8) : BfA := if addE (x.s 1).c bs ≠ 0 then x else if (x.s 1).at_ = NV then x.up 1 fun s => setA 1 now { s with c := addA s.c bs } else x.up 1 fun s => { s with c := addA s.c bs }
set_option maxHeartbeats 2000000 in
theorem bwrite_ct (L : List SP) (b wb : Nat) (x : BfA) (ht : TmOk x) (now : Int) (hn : InK .u64 now) (ad : Option Addr) (m cap : Nat) (bs : List UInt8) (hl : bs.length = m) (hD : RdS L 1 ad m (bsl bs)) (hmc : m ≤ cap) (hm : m ≤ 70368744177664) : Ct Try.prog 19 #[.pointer (some ⟨b, 0, none⟩), .int .u64 now, .slice ad m cap] (BufP b wb x :: L) (fun _ : Unit => .int .i64 (wrE x bs)) (fun _ : Unit => BufP b wb (wrB x now bs) :: L) := by
  refine Ct.of (vs := [.pointer (some ⟨b, 0, none⟩), .int .u64 now, .slice ad m cap]) Try.func19 rfl rfl [(0, .pointer (some ⟨b, 0, none⟩)), (1, .int .u64 now), (2, .slice ad m cap)] (by repeat (first | exact trivial | refine ⟨rfl, ?_⟩)) ?_
  intro E
  show Hd E 30 _ _ _ _
  refine Hd.buf .here ?_
  refine Hd.seq (fun K1 hK1 => ?_)
  refine Hd.region ?_
  refine Hd.yv (y_assign rfl) ?_
  refine Hd.nil ?_
  refine Hd.slots [(0, _), (1, _), (2, _)] ⟨rfl, rfl, rfl, trivial⟩ ?_
  refine Hd.toK hK1 ?_
  refine Hd.seq (fun K2 hK2 => ?_)
  refine Hd.seq (fun K3 hK3 => ?_)
  refine Hd.region ?_
  refine Hd.yv (y_move rfl) ?_
  refine Hd.callE rfl fk36 (bnone_ct _ b wb x.fd) (Ent.sep enn) ?_
  intro _
  refine Hd.nil ?_
  refine Hd.slots [(0, _), (1, _), (2, _), (9, _)] ⟨rfl, rfl, rfl, rfl, trivial⟩ ?_
  refine Hd.toK hK3 ?_
  refine Hd.condF rfl ?_
  refine Hd.skip ?_
  refine Hd.toK hK2 ?_
  refine Hd.seq (fun K4 hK4 => ?_)
  refine Hd.seq (fun K5 hK5 => ?_)
  refine Hd.region ?_
  refine Hd.yv (y_move rfl) ?_
  refine Hd.yv (y_nilp rfl) ?_
  first | (refine Hd.yv (y_field' (q := 2) (ft := 92) Try.underlying94 rfl sz92 rfl rfl) ?_) | (refine Hd.yv (y_fieldR (q := 2) (ft := 92) Try.underlying94 rfl sz92 rfl rfl) ?_)
  refine Hd.yv (y_idxA Try.underlying92 sz91 rfl rfl (by first | omega | decide)) ?_
  first | (refine Hd.yv (y_field' (q := 0) (ft := 89) Try.underlying91 rfl sz89 rfl rfl) ?_) | (refine Hd.yv (y_fieldR (q := 0) (ft := 89) Try.underlying91 rfl sz89 rfl rfl) ?_)
  refine Hd.yv (y_move rfl) ?_
  refine Hd.callE rfl fk44 (chAdd _ b (2 + 1 * 8 + 0) (x.s 1).c ad m cap bs hl ?hA hmc hm) (Ent.sep enn) ?_
  case hA => exact RdS.mono hD (Ent.sep enn)
  intro _
  refine Hd.yv (y_assign rfl) ?_
  refine Hd.nil ?_
  refine Hd.slots [(0, _), (1, _), (7, _)] ⟨rfl, rfl, rfl, trivial⟩ ?_
  refine Hd.toK hK5 ?_
  refine Hd.seq (fun K6 hK6 => ?_)
  refine Hd.region ?_
  refine Hd.yv (y_move rfl) ?_
  refine Hd.yv (y_neq rfl rfl) ?_
  refine Hd.nil ?_
  refine Hd.slots [(0, _), (1, _), (7, _), (18, _)] ⟨rfl, rfl, rfl, rfl, trivial⟩ ?_
  refine Hd.toK hK6 ?_
  refine Hd.cond rfl (fun hc1 => ?_) (fun hc1 => ?_)
  ·
    try simp only [decide_eq_true_eq, decide_eq_false_iff_not, Bool.and_eq_true, Bool.or_eq_true, Bool.and_eq_false_iff, Bool.or_eq_false_iff, Bool.not_eq_true', Bool.not_eq_false', Bool.not_eq_true, Bool.not_eq_false, Int.not_lt, Int.not_le, Decidable.not_not, ne_eq] at hc1
    refine Hd.seq (fun K7 hK7 => ?_)
    refine Hd.region ?_
    refine Hd.yv (y_move rfl) ?_
    refine Hd.yv (y_assign rfl) ?_
    refine Hd.nil ?_
    refine Hd.slots [(6, _)] ⟨rfl, trivial⟩ ?_
    refine Hd.toK hK7 ?_
    refine Hd.ret ?_
    refine Hd.thenRet ?_
    clear hK1 hK2 hK3 hK4 hK5 hK6 hK7
    have hne : addA (x.s 1).c bs = (x.s 1).c := by
      unfold addE at hc1; unfold addA
      split at hc1
      · exact absurd rfl hc1
      · rename_i h; rw [if_neg h]
    rw [hne, show wrB x now bs = x by unfold wrB; rw [if_pos hc1]]
    exact Hd.ret1 rfl () rfl (fun q s => buf_close rfl rfl rfl q (Ent.sep enn q s))
  ·
    try simp only [decide_eq_true_eq, decide_eq_false_iff_not, Bool.and_eq_true, Bool.or_eq_true, Bool.and_eq_false_iff, Bool.or_eq_false_iff, Bool.not_eq_true', Bool.not_eq_false', Bool.not_eq_true, Bool.not_eq_false, Int.not_lt, Int.not_le, Decidable.not_not, ne_eq] at hc1
    have hc1' : ¬ addE (x.s 1).c bs ≠ 0 := by omega
    refine Hd.skip ?_
    refine Hd.toK hK4 ?_
    refine Hd.seq (fun K8 hK8 => ?_)
    refine Hd.seq (fun K9 hK9 => ?_)
    refine Hd.region ?_
    refine Hd.yv (y_move rfl) ?_
    refine Hd.yv (y_nilp rfl) ?_
    first | (refine Hd.yv (y_field' (q := 2) (ft := 92) Try.underlying94 rfl sz92 rfl rfl) ?_) | (refine Hd.yv (y_fieldR (q := 2) (ft := 92) Try.underlying94 rfl sz92 rfl rfl) ?_)
    refine Hd.yv (y_idxA Try.underlying92 sz91 rfl rfl (by first | omega | decide)) ?_
    first | (refine Hd.yv (y_field' (q := 7) (ft := 35) Try.underlying91 rfl sz35 rfl rfl) ?_) | (refine Hd.yv (y_fieldR (q := 7) (ft := 35) Try.underlying91 rfl sz35 rfl rfl) ?_)
    first | (refine Hd.yv (y_load1 ag35 rfl (Rd.pt1 pkk (by (first | rfl)))) ?_) | (refine Hd.yv (y_load1 ag35 rfl (Rd.seg1 pkk (by (first | rfl)))) ?_) | (refine Hd.yv (y_load1 ag35 rfl (Rd.segK1 pkk (by decide) (by (first | rfl)))) ?_) | (refine Hd.yv (y_loadR1 ag35 rfl (by (first | exact RdS.own pkk)) (by (first | rfl))) ?_)
    first | (refine Hd.yv (y_eqlT rfl rfl) ?_) | (refine Hd.yv (y_eql rfl rfl) ?_)
    refine Hd.nil ?_
    refine Hd.slots [(0, _), (1, _), (26, _)] ⟨rfl, rfl, rfl, trivial⟩ ?_
    refine Hd.toK hK9 ?_
    refine Hd.cond rfl (fun hc2 => ?_) (fun hc2 => ?_)
    ·
      try simp only [decide_eq_true_eq, decide_eq_false_iff_not, Bool.and_eq_true, Bool.or_eq_true, Bool.and_eq_false_iff, Bool.or_eq_false_iff, Bool.not_eq_true', Bool.not_eq_false', Bool.not_eq_true, Bool.not_eq_false, Int.not_lt, Int.not_le, Decidable.not_not, ne_eq] at hc2
      refine Hd.region ?_
      refine Hd.yv (y_move rfl) ?_
      refine Hd.yv (y_move rfl) ?_
      refine Hd.callE rfl fk39 (set_ct _ b 1 (by omega) { x.s 1 with c := addA (x.s 1).c bs } now hn (ht 1 (by omega)).1) (Ent.sep enn) ?_
      intro _
      refine Hd.nil ?_
      refine Hd.slots [] trivial ?_
      refine Hd.toK hK8 ?_
      refine Hd.seq (fun K10 hK10 => ?_)
      refine Hd.region ?_
      refine Hd.yv (y_assign rfl) ?_
      refine Hd.nil ?_
      refine Hd.slots [(6, _)] ⟨rfl, trivial⟩ ?_
      refine Hd.toK hK10 ?_
      refine Hd.ret ?_
      clear hK1 hK2 hK3 hK4 hK5 hK6 hK8 hK9 hK10
      rw [show wrE x bs = 0 from hc1, show wrB x now bs = x.up 1 fun s => setA 1 now { s with c := addA s.c bs } by unfold wrB; rw [if_neg hc1', if_pos hc2]]
      exact Hd.ret1 rfl () rfl (fun q s => buf_put (fd := x.fd) (x' := x.up 1 fun s => setA 1 now { s with c := addA s.c bs }) (s0 := x.s 0) (s1 := setA 1 now { x.s 1 with c := addA (x.s 1).c bs }) rfl rfl rfl q (Ent.sep enn q s))
    ·
      try simp only [decide_eq_true_eq, decide_eq_false_iff_not, Bool.and_eq_true, Bool.or_eq_true, Bool.and_eq_false_iff, Bool.or_eq_false_iff, Bool.not_eq_true', Bool.not_eq_false', Bool.not_eq_true, Bool.not_eq_false, Int.not_lt, Int.not_le, Decidable.not_not, ne_eq] at hc2
      refine Hd.skip ?_
      refine Hd.toK hK8 ?_
      refine Hd.seq (fun K11 hK11 => ?_)
      refine Hd.region ?_
      refine Hd.yv (y_assign rfl) ?_
      refine Hd.nil ?_
      refine Hd.slots [(6, _)] ⟨rfl, trivial⟩ ?_
      refine Hd.toK hK11 ?_
      refine Hd.ret ?_
      clear hK1 hK2 hK3 hK4 hK5 hK6 hK8 hK9 hK11
      rw [show wrE x bs = 0 from hc1, show wrB x now bs = x.up 1 fun s => { s with c := addA s.c bs } by unfold wrB; rw [if_neg hc1', if_neg hc2]]
      exact Hd.ret1 rfl () rfl (fun q s => buf_put (fd := x.fd) (x' := x.up 1 fun s => { s with c := addA s.c bs }) (s0 := x.s 0) (s1 := { x.s 1 with c := addA (x.s 1).c bs }) rfl rfl rfl q (Ent.sep enn q s))
end Bu
end Go.Proofs.Ytmpemhbfgbochaa
namespace Go.Proofs.Ytmpemhbfgbochaa
set_option linter.unusedSimpArgs false
set_option linter.unusedVariables false
set_option linter.unnecessarySimpa false
open Go.RX Fx
namespace Bu
open Wo
set_option maxRecDepth 8000
theorem sides_sub (mask : Int) : ∀ k ∈ sidesA mask, k < 2 := fun k hk => by
  have := (List.mem_filter.1 hk).1
  simp at this; omega
theorem sides_nd (mask : Int) : (sidesA mask).Nodup := by
  exact (show ([0, 1] : List Nat).Nodup by decide).sublist List.filter_sublist
theorem pre_new {mask : Int} {pre : List Nat} {c : Nat} (h : pre ++ [c] <+: sidesA mask) : c < 2 ∧ c ∉ pre := by
  refine ⟨sides_sub mask c (h.subset (by simp)), fun hc => ?_⟩
  have := (sides_nd mask).sublist h.sublist
  rw [List.nodup_append] at this
  exact this.2.2 c hc c (by simp) rfl
abbrev effB (f : Nat → SdA → SdA) (x : BfA) (ks : List Nat) : BfA := { x with s := fun j => if j ∈ ks then f j (x.s j) else x.s j }
theorem eff_nil (f : Nat → SdA → SdA) (x : BfA) : effB f x [] = x := by
  obtain ⟨s, fd⟩ := x
  show (⟨fun j => if j ∈ [] then _ else s j, fd⟩ : BfA) = _
  simp
theorem eff_s {f : Nat → SdA → SdA} {x : BfA} {ks : List Nat} {k : Nat} (h : k ∉ ks) : (effB f x ks).s k = x.s k := if_neg h
theorem eff_snoc {f : Nat → SdA → SdA} {x : BfA} {ks : List Nat} {k : Nat} (h : k ∉ ks) : (effB f x ks).up k (fun _ => f k (x.s k)) = effB f x (ks ++ [k]) := by
  unfold BfA.up
  congr 1; funext j
  by_cases e : j = k
  · subst e; simp
  · simp [e]
theorem Hd.bufK {E : World} {n : Nat} {ds : List Deferred} {st : List (Nat × Value)} {L L' : List SP} {K : Act → World → Prop} {b wb : Nat} {x : BfA} (p : Pick L (BufP b wb x) L') (k : Nat) (hk : k < 2) (h : Hd E n ds st (BfL b wb x k L') K) : Hd E n ds st L K :=
  Hd.buf p (by
    rcases (show k = 0 ∨ k = 1 by omega) with rfl | rfl
    · exact h
    · refine Hd.heap (BfL b wb x 1 L') (fun q s => ?_) h
      exact Ent.sep (show Ent (BfK b :: BfH b wb x.fd :: SdL b 0 (x.s 0) (SdL b 1 (x.s 1) L')) (BfK b :: BfH b wb x.fd :: SdL b 1 (x.s 1) (SdL b 0 (x.s 0) L')) from enn) q s)
theorem buf_putK {b wb k : Nat} {x : BfA} {s' : SdA} {L : List SP} (hk : k < 2) : ∀ h, sep (BfL b wb (x.up k fun _ => s') k L) h → sep (BufP b wb (x.up k fun _ => s') :: L) h := fun h s => by
  rcases (show k = 0 ∨ k = 1 by omega) with rfl | rfl
  · exact buf_put (fd := x.fd) (x' := x.up 0 fun _ => s') (s0 := (x.up 0 fun _ => s').s 0) (s1 := (x.up 0 fun _ => s').s 1) rfl rfl rfl h s
  · have s2 : sep (BfK b :: BfH b wb x.fd :: SdL b 1 ((x.up 1 fun _ => s').s 1) (SdL b 0 ((x.up 1 fun _ => s').s 0) L)) h := s
    exact buf_put (fd := x.fd) (x' := x.up 1 fun _ => s') (s0 := (x.up 1 fun _ => s').s 0) (s1 := (x.up 1 fun _ => s').s 1) rfl rfl rfl h (Ent.sep enn h s2)
theorem bup_same (x : BfA) (k : Nat) : x.up k (fun _ => x.s k) = x := by
  obtain ⟨s, fd⟩ := x
  unfold BfA.up
  congr 1; funext j
  by_cases e : j = k
  · subst e; simp
  · simp [e]
theorem buf_backK {b wb k : Nat} {x : BfA} {L : List SP} (hk : k < 2) : ∀ h, sep (BfL b wb x k L) h → sep (BufP b wb x :: L) h := fun h s => by
  have := buf_putK (b := b) (wb := wb) (x := x) (s' := x.s k) (L := L) hk h
  rw [bup_same] at this
  exact this s
theorem bfL_up {b wb k : Nat} {x : BfA} {s' : SdA} {L : List SP} (hk : k < 2) : BfL b wb (x.up k fun _ => s') k L = BfK b :: BfH b wb x.fd :: SdL b k s' (SdL b (1 - k) (x.s (1 - k)) L) := by
  unfold BfL
  rw [bup_at, bup_ne _ _ (by omega)]; rfl
theorem bfL_eff {b wb k : Nat} {x : BfA} {f : Nat → SdA → SdA} {ks : List Nat} {L : List SP} (hk : k ∉ ks) : BfL b wb (effB f x ks) k L = BfK b :: BfH b wb x.fd :: SdL b k (x.s k) (SdL b (1 - k) ((effB f x ks).s (1 - k)) L) := by
  unfold BfL
  rw [eff_s hk]
abbrev onF (now : Int) (k : Nat) (s : SdA) : SdA := if s.on = true then s else setA k now { s with on := true }
def enB (x : BfA) (now sides : Int) : BfA := if bits .andNot .i64 sides 6 = 0 then effB (onF now) x (sidesA sides) else x
def enE (sides : Int) : Int := if bits .andNot .i64 sides 6 = 0 then 0 else 2
set_option maxHeartbeats 2000000 in
theorem enable_ct (L : List SP) (b wb : Nat) (x : BfA) (ht : TmOk x) (now sides : Int) (hn : InK .u64 now) : Ct Try.prog 14 #[.pointer (some ⟨b, 0, none⟩), .int .u64 now, .int .i64 sides] (BufP b wb x :: L) (fun _ : Unit => .int .i64 (enE sides)) (fun _ : Unit => BufP b wb (enB x now sides) :: L) := by
  refine Ct.ofM (vs := [.pointer (some ⟨b, 0, none⟩), .int .u64 now, .int .i64 sides]) Try.func14 rfl rfl [(0, .pointer (some ⟨b, 0, none⟩)), (1, .int .u64 now), (2, .int .i64 sides)] (by repeat (first | exact trivial | refine ⟨rfl, ?_⟩)) ?_
  intro E
  show Hd E 33 _ _ _ _
  refine Hd.bufK .here 0 (by omega) ?_
  refine Hd.seq (fun K1 hK1 => ?_)
  refine Hd.region ?_
  refine Hd.box rfl rfl (fun b3 => ?_)
  refine Hd.box rfl rfl (fun b4 => ?_)
  refine Hd.yv (y_assign rfl) ?_
  refine Hd.nil ?_
  refine Hd.slots [(2, _), (3, _), (4, _)] ⟨rfl, rfl, rfl, trivial⟩ ?_
  refine Hd.toK hK1 ?_
  refine Hd.seq (fun K2 hK2 => ?_)
  refine Hd.seq (fun K3 hK3 => ?_)
  refine Hd.region ?_
  first | (refine Hd.yv (y_load1 ag30 rfl (Rd.pt1 pkk (by (first | rfl)))) ?_) | (refine Hd.yv (y_load1 ag30 rfl (Rd.seg1 pkk (by (first | rfl)))) ?_) | (refine Hd.yv (y_load1 ag30 rfl (Rd.segK1 pkk (by decide) (by (first | rfl)))) ?_) | (refine Hd.yv (y_loadR1 ag30 rfl (by (first | exact RdS.own pkk)) (by (first | rfl))) ?_)
  refine Hd.yv (y_move rfl) ?_
  refine Hd.callE rfl fk38 (may_ct _ b wb x.fd sides) (Ent.sep enn) ?_
  intro _
  refine Hd.heap (BufP b wb x :: pt b3 [.pointer (some ⟨b, 0, none⟩)] 30 :: pt b4 [.int .u64 now] 35 :: L) (fun q s => buf_close rfl rfl rfl q (Ent.sep enn q s)) ?_
  rw [show (if bits .andNot .i64 sides 6 = 0 then (0 : Int) else 2) = enE sides from rfl]
  refine Hd.yv (y_assign rfl) ?_
  refine Hd.nil ?_
  refine Hd.slots [(2, _), (3, _), (4, _), (7, _)] ⟨rfl, rfl, rfl, rfl, trivial⟩ ?_
  refine Hd.toK hK3 ?_
  refine Hd.seq (fun K4 hK4 => ?_)
  refine Hd.region ?_
  refine Hd.yv (y_move rfl) ?_
  refine Hd.yv (y_neq rfl rfl) ?_
  refine Hd.nil ?_
  refine Hd.slots [(2, _), (3, _), (4, _), (7, _), (14, _)] ⟨rfl, rfl, rfl, rfl, rfl, trivial⟩ ?_
  refine Hd.toK hK4 ?_
  refine Hd.cond rfl (fun hc0 => ?_) (fun hc0 => ?_)
  ·
    try simp only [decide_eq_true_eq, decide_eq_false_iff_not, Bool.and_eq_true, Bool.or_eq_true, Bool.and_eq_false_iff, Bool.or_eq_false_iff, Bool.not_eq_true', Bool.not_eq_false', Bool.not_eq_true, Bool.not_eq_false, Int.not_lt, Int.not_le, Decidable.not_not, ne_eq] at hc0
    refine Hd.seq (fun K5 hK5 => ?_)
    refine Hd.region ?_
    refine Hd.yv (y_move rfl) ?_
    refine Hd.yv (y_assign rfl) ?_
    refine Hd.nil ?_
    refine Hd.slots [(6, _)] ⟨rfl, trivial⟩ ?_
    refine Hd.toK hK5 ?_
    refine Hd.ret ?_
    refine Hd.thenRet ?_
    clear hK1 hK2 hK3 hK4 hK5
    have h : ¬ bits .andNot .i64 sides 6 = 0 := fun h => by unfold enE at hc0; rw [if_pos h] at hc0; exact hc0 rfl
    rw [show enB x now sides = x by unfold enB; rw [if_neg h]]
    exact Hd.retM (fun a fr => Lv.end1 fr rfl () rfl (Ent.sep enn))
  ·
    try simp only [decide_eq_true_eq, decide_eq_false_iff_not, Bool.and_eq_true, Bool.or_eq_true, Bool.and_eq_false_iff, Bool.or_eq_false_iff, Bool.not_eq_true', Bool.not_eq_false', Bool.not_eq_true, Bool.not_eq_false, Int.not_lt, Int.not_le, Decidable.not_not, ne_eq] at hc0
    have hz : bits .andNot .i64 sides 6 = 0 := Decidable.byContradiction fun h => by unfold enE at hc0; rw [if_neg h] at hc0; exact absurd hc0 (by decide)
    refine Hd.skip ?_
    refine Hd.toK hK2 ?_
    refine Hd.seq (fun K6 hK6 => ?_)
    refine Hd.seq (fun K7 hK7 => ?_)
    refine Hd.region ?_
    first | (refine Hd.yv (y_load1 ag30 rfl (Rd.pt1 pkk (by (first | rfl)))) ?_) | (refine Hd.yv (y_load1 ag30 rfl (Rd.seg1 pkk (by (first | rfl)))) ?_) | (refine Hd.yv (y_load1 ag30 rfl (Rd.segK1 pkk (by decide) (by (first | rfl)))) ?_) | (refine Hd.yv (y_loadR1 ag30 rfl (by (first | exact RdS.own pkk)) (by (first | rfl))) ?_)
    refine Hd.yv (y_move rfl) ?_
    refine Hd.callE rfl fk37 (some_ct _ (some ⟨b, 0, none⟩) sides) (Ent.sep enn) ?_
    rintro ⟨bb, bm⟩
    dsimp only
    refine Hd.nil ?_
    refine Hd.slots [(3, _), (4, _), (18, _)] ⟨rfl, rfl, rfl, trivial⟩ ?_
    refine Hd.toK hK7 ?_
    refine Hd.block ?_
    refine Hd.rangeF (enc := encK b) (S := fun ys => ys = sidesA sides) (Sp := fun ys => ys <+: sidesA sides)
      (fun pre => BufP b wb (effB (onF now) x pre) :: pt b3 [.pointer (some ⟨b, 0, none⟩)] 30 :: pt b4 [.int .u64 now] 35 :: L) (fun _ _ => [pu False])
      rfl (by kernel_rfl) (fun _ => rfl) rfl (some_it b bb bm sides) (by rw [eff_nil]; refine Ent.sep ?_; refine Ent.pick pkk ?_; refine Ent.pick pkk ?_; refine Ent.pick pkk ?_; exact Ent.swap (L := [_, _])) ?_ ?_ ?_
    ·
      intro E l' R pre c N hR hG
      obtain ⟨hc, hcp⟩ := pre_new hG
      have hes := eff_s (f := onF now) (x := x) hcp
      have hsn := eff_snoc (f := onF now) (x := x) hcp
      unfold Rnd
      simp only [List.cons_append, List.nil_append, pz, encK]
      refine Hd.seq (fun K8 hK8 => ?_)
      refine Hd.region ?_
      refine Hd.yv (y_assign rfl) ?_
      refine Hd.nil ?_
      refine Hd.slots [(3, _), (4, _), (8, _), (20, _)] ⟨rfl, rfl, rfl, rfl, trivial⟩ ?_
      refine Hd.toK hK8 ?_
      refine Hd.region ?_
      refine Hd.yv (y_assign rfl) ?_
      refine Hd.nil ?_
      refine Hd.slots [(3, _), (4, _), (8, _), (9, _)] ⟨rfl, rfl, rfl, rfl, trivial⟩ ?_
      refine Hd.thenN ?_
      refine Hd.begin hR pkk ?_
      refine Hd.block ?_
      refine Hd.seq (fun K9 hK9 => ?_)
      refine Hd.bufK (b := b) pkk c hc ?_
      rw [bfL_eff hcp]
      refine Hd.region ?_
      refine Hd.yv (y_move rfl) ?_
      refine Hd.yv (y_nilp rfl) ?_
      first | (refine Hd.yv (y_field' (q := 2) (ft := 4) Try.underlying91 rfl sz4 rfl rfl) ?_) | (refine Hd.yv (y_fieldR (q := 2) (ft := 4) Try.underlying91 rfl sz4 rfl rfl) ?_)
      first | (refine Hd.yv (y_load1 ag4 rfl (Rd.pt1 pkk (by (first | rfl)))) ?_) | (refine Hd.yv (y_load1 ag4 rfl (Rd.seg1 pkk (by (first | rfl)))) ?_) | (refine Hd.yv (y_load1 ag4 rfl (Rd.segK1 pkk (by decide) (by (first | rfl)))) ?_) | (refine Hd.yv (y_loadR1 ag4 rfl (by (first | exact RdS.own pkk)) (by (first | rfl))) ?_)
      refine Hd.yv (y_not rfl) ?_
      refine Hd.nil ?_
      refine Hd.slots [(3, _), (4, _), (8, _), (9, _), (25, _)] ⟨rfl, rfl, rfl, rfl, rfl, trivial⟩ ?_
      refine Hd.toK hK9 ?_
      refine Hd.cond rfl (fun hc1 => ?_) (fun hc1 => ?_)
      ·
        try simp only [decide_eq_true_eq, decide_eq_false_iff_not, Bool.and_eq_true, Bool.or_eq_true, Bool.and_eq_false_iff, Bool.or_eq_false_iff, Bool.not_eq_true', Bool.not_eq_false', Bool.not_eq_true, Bool.not_eq_false, Int.not_lt, Int.not_le, Decidable.not_not, ne_eq] at hc1
        refine Hd.seq (fun K10 hK10 => ?_)
        refine Hd.region ?_
        refine Hd.yv (y_move rfl) ?_
        refine Hd.yv (y_nilp rfl) ?_
        first | (refine Hd.yv (y_field' (q := 2) (ft := 4) Try.underlying91 rfl sz4 rfl rfl) ?_) | (refine Hd.yv (y_fieldR (q := 2) (ft := 4) Try.underlying91 rfl sz4 rfl rfl) ?_)
        first | (refine Hd.store1 sz4 rfl rfl rfl pkk (by first | decide | (simp; done) | (simp; omega)) ?_) | (refine Hd.storeG1 sz4 rfl rfl rfl pkk (by first | decide | (simp; done) | (simp; omega)) ?_) | (refine Hd.storeO1 sz4 rfl rfl rfl pkk (by first | omega | (simp; done) | (simp; omega)) ?_) | (refine Hd.storeK1 sz4 rfl rfl rfl pkk (by decide) (by first | decide | (simp; done) | (simp; omega)) ?_)
        try simp only [List.set_cons_zero, List.set_cons_succ]
        refine Hd.nil ?_
        refine Hd.slots [(3, _), (4, _), (8, _)] ⟨rfl, rfl, rfl, trivial⟩ ?_
        refine Hd.toK hK10 ?_
        refine Hd.region ?_
        first | (refine Hd.yv (y_load1 ag30 rfl (Rd.pt1 pkk (by (first | rfl)))) ?_) | (refine Hd.yv (y_load1 ag30 rfl (Rd.seg1 pkk (by (first | rfl)))) ?_) | (refine Hd.yv (y_load1 ag30 rfl (Rd.segK1 pkk (by decide) (by (first | rfl)))) ?_) | (refine Hd.yv (y_loadR1 ag30 rfl (by (first | exact RdS.own pkk)) (by (first | rfl))) ?_)
        refine Hd.yv (y_move rfl) ?_
        first | (refine Hd.yv (y_load1 ag35 rfl (Rd.pt1 pkk (by (first | rfl)))) ?_) | (refine Hd.yv (y_load1 ag35 rfl (Rd.seg1 pkk (by (first | rfl)))) ?_) | (refine Hd.yv (y_load1 ag35 rfl (Rd.segK1 pkk (by decide) (by (first | rfl)))) ?_) | (refine Hd.yv (y_loadR1 ag35 rfl (by (first | exact RdS.own pkk)) (by (first | rfl))) ?_)
        refine Hd.callE rfl fk39 (set_ct _ b c hc { x.s c with on := true } now hn (ht c hc).1) (Ent.sep enn) ?_
        intro _
        refine Hd.nil ?_
        refine Hd.heap (BufP b wb ((effB (onF now) x pre).up c fun _ => setA c now { x.s c with on := true }) :: _) (fun q s => buf_putK hc q (by rw [bfL_up hc]; exact Ent.sep enn q s)) ?_
        refine Hd.slots [] trivial ?_
        refine Hd.inB ?_
        clear hK1 hK2 hK3 hK4 hK6 hK7 hK8 hK9 hK10
        refine Hd.reN ?_
        simp only [List.cons_append, List.nil_append]
        have hs1 : onF now c (x.s c) = setA c now { x.s c with on := true } := if_neg (by rw [hc1]; simp)
        rw [← hsn, hs1]
        exact (Ent.sep enn)
      ·
        try simp only [decide_eq_true_eq, decide_eq_false_iff_not, Bool.and_eq_true, Bool.or_eq_true, Bool.and_eq_false_iff, Bool.or_eq_false_iff, Bool.not_eq_true', Bool.not_eq_false', Bool.not_eq_true, Bool.not_eq_false, Int.not_lt, Int.not_le, Decidable.not_not, ne_eq] at hc1
        refine Hd.heap (BufP b wb ((effB (onF now) x pre).up c fun _ => x.s c) :: _) (fun q s => buf_putK hc q (by rw [bfL_up hc]; exact Ent.sep enn q s)) ?_
        refine Hd.skip ?_
        refine Hd.inB ?_
        clear hK1 hK2 hK3 hK4 hK6 hK7 hK8 hK9
        refine Hd.reN ?_
        simp only [List.cons_append, List.nil_append]
        have hs1 : onF now c (x.s c) = x.s c := if_pos hc1
        rw [← hsn, hs1]
        exact (Ent.sep enn)
    ·
      intro r0 ys hys
      obtain rfl : ys = sidesA sides := hys
      try simp only [List.cons_append, List.nil_append]
      refine Hd.inB ?_
      refine Hd.toK hK6 ?_
      refine Hd.seq (fun K11 hK11 => ?_)
      refine Hd.region ?_
      refine Hd.yv (y_assign rfl) ?_
      refine Hd.nil ?_
      refine Hd.slots [(6, _)] ⟨rfl, trivial⟩ ?_
      refine Hd.toK hK11 ?_
      refine Hd.ret ?_
      clear hK1 hK2 hK3 hK4 hK6 hK7 hK11
      rw [show enE sides = 0 from hc0, show enB x now sides = effB (onF now) x (sidesA sides) by unfold enB; rw [if_pos hz]]
      exact Hd.retM (fun a fr => Lv.mark pkk (Lv.end1 fr rfl () rfl (Ent.sep enn)))
    ·
      rintro r0_0 (_ | id0) pre0 hG0
      ·
        exact Hd.absurd (by first | exact id | simp)
      ·
        exact Hd.absurd (by first | exact id | simp)
def onM (x : BfA) (ks : List Nat) : Int := ks.foldl (fun m k => if (x.s k).on = true then bits .or .i64 m (flagA k) else m) 0
theorem onM_snoc (x : BfA) (ks : List Nat) (k : Nat) : onM x (ks ++ [k]) = if (x.s k).on = true then bits .or .i64 (onM x ks) (flagA k) else onM x ks := by unfold onM; rw [List.foldl_append]; rfl
set_option maxHeartbeats 2000000 in
theorem enabled_ct (L : List SP) (b wb : Nat) (x : BfA) : Ct Try.prog 23 #[.pointer (some ⟨b, 0, none⟩)] (BufP b wb x :: L) (fun _ : Unit => .int .i64 (onM x (sidesA 6))) (fun _ : Unit => BufP b wb x :: L) := by
  refine Ct.ofM (vs := [.pointer (some ⟨b, 0, none⟩)]) Try.func23 rfl rfl [(0, .pointer (some ⟨b, 0, none⟩))] (by repeat (first | exact trivial | refine ⟨rfl, ?_⟩)) ?_
  intro E
  show Hd E 22 _ _ _ _
  refine Hd.bufK .here 0 (by omega) ?_
  refine Hd.seq (fun K1 hK1 => ?_)
  refine Hd.region ?_
  refine Hd.yv (y_assign rfl) ?_
  refine Hd.nil ?_
  refine Hd.slots [(0, _)] ⟨rfl, trivial⟩ ?_
  refine Hd.toK hK1 ?_
  refine Hd.seq (fun K2 hK2 => ?_)
  refine Hd.region ?_
  refine Hd.alloc zr3 (fun b3 => ?_)
  first | (refine Hd.store1 sz3 rfl rfl rfl pkk (by first | decide | (simp; done) | (simp; omega)) ?_) | (refine Hd.storeG1 sz3 rfl rfl rfl pkk (by first | decide | (simp; done) | (simp; omega)) ?_) | (refine Hd.storeO1 sz3 rfl rfl rfl pkk (by first | omega | (simp; done) | (simp; omega)) ?_) | (refine Hd.storeK1 sz3 rfl rfl rfl pkk (by decide) (by first | decide | (simp; done) | (simp; omega)) ?_)
  try simp only [List.set_cons_zero, List.set_cons_succ]
  refine Hd.nil ?_
  refine Hd.slots [(0, _), (3, _)] ⟨rfl, rfl, trivial⟩ ?_
  refine Hd.toK hK2 ?_
  refine Hd.seq (fun K3 hK3 => ?_)
  refine Hd.seq (fun K4 hK4 => ?_)
  refine Hd.region ?_
  refine Hd.yv (y_move rfl) ?_
  refine Hd.callE rfl fk36 (bnone_ct _ b wb x.fd) (Ent.sep enn) ?_
  intro _
  refine Hd.heap (BufP b wb x :: pt b3 [.int .i64 0] 3 :: L) (fun q s => buf_close rfl rfl rfl q (Ent.sep enn q s)) ?_
  refine Hd.yv (y_not rfl) ?_
  refine Hd.nil ?_
  refine Hd.slots [(0, _), (3, _), (8, _)] ⟨rfl, rfl, rfl, trivial⟩ ?_
  refine Hd.toK hK4 ?_
  refine Hd.condT rfl ?_
  refine Hd.seq (fun K5 hK5 => ?_)
  refine Hd.region ?_
  refine Hd.yv (y_move rfl) ?_
  refine Hd.callE rfl fk37 (some_ct _ (some ⟨b, 0, none⟩) 6) (Ent.sep enn) ?_
  rintro ⟨bb, bm⟩
  dsimp only
  refine Hd.nil ?_
  refine Hd.slots [(3, _), (10, _)] ⟨rfl, rfl, trivial⟩ ?_
  refine Hd.toK hK5 ?_
  refine Hd.block ?_
  refine Hd.rangeF (enc := encK b) (S := fun ys => ys = sidesA 6) (Sp := fun ys => ys <+: sidesA 6)
    (fun pre => pt b3 [.int .i64 (onM x pre)] 3 :: BufP b wb x :: L) (fun _ _ => [pu False])
    rfl (by kernel_rfl) (fun _ => rfl) rfl (some_it b bb bm 6) (by refine Ent.sep ?_; refine Ent.eq pkk (pt_eq (by rfl)) ?_; refine Ent.pick pkk ?_; exact Ent.swap (L := [_, _])) ?_ ?_ ?_
  ·
    intro E l' R pre c N hR hG
    obtain ⟨hc, hcp⟩ := pre_new hG
    have hsn := onM_snoc x pre c
    unfold Rnd
    simp only [List.cons_append, List.nil_append, pz, encK]
    refine Hd.seq (fun K6 hK6 => ?_)
    refine Hd.region ?_
    refine Hd.yv (y_assign rfl) ?_
    refine Hd.nil ?_
    refine Hd.slots [(3, _), (4, _), (12, _)] ⟨rfl, rfl, rfl, trivial⟩ ?_
    refine Hd.toK hK6 ?_
    refine Hd.region ?_
    refine Hd.yv (y_assign rfl) ?_
    refine Hd.nil ?_
    refine Hd.slots [(3, _), (4, _), (5, _)] ⟨rfl, rfl, rfl, trivial⟩ ?_
    refine Hd.thenN ?_
    refine Hd.begin hR pkk ?_
    refine Hd.block ?_
    refine Hd.seq (fun K7 hK7 => ?_)
    refine Hd.bufK (b := b) pkk c hc ?_
    refine Hd.region ?_
    refine Hd.yv (y_move rfl) ?_
    refine Hd.yv (y_nilp rfl) ?_
    first | (refine Hd.yv (y_field' (q := 2) (ft := 4) Try.underlying91 rfl sz4 rfl rfl) ?_) | (refine Hd.yv (y_fieldR (q := 2) (ft := 4) Try.underlying91 rfl sz4 rfl rfl) ?_)
    first | (refine Hd.yv (y_load1 ag4 rfl (Rd.pt1 pkk (by (first | rfl)))) ?_) | (refine Hd.yv (y_load1 ag4 rfl (Rd.seg1 pkk (by (first | rfl)))) ?_) | (refine Hd.yv (y_load1 ag4 rfl (Rd.segK1 pkk (by decide) (by (first | rfl)))) ?_) | (refine Hd.yv (y_loadR1 ag4 rfl (by (first | exact RdS.own pkk)) (by (first | rfl))) ?_)
    refine Hd.nil ?_
    refine Hd.heap (BufP b wb x :: _) (fun q s => buf_backK hc q (by exact Ent.sep enn q s)) ?_
    refine Hd.slots [(3, _), (4, _), (16, _)] ⟨rfl, rfl, rfl, trivial⟩ ?_
    refine Hd.toK hK7 ?_
    refine Hd.cond rfl (fun hc1 => ?_) (fun hc1 => ?_)
    ·
      try simp only [decide_eq_true_eq, decide_eq_false_iff_not, Bool.and_eq_true, Bool.or_eq_true, Bool.and_eq_false_iff, Bool.or_eq_false_iff, Bool.not_eq_true', Bool.not_eq_false', Bool.not_eq_true, Bool.not_eq_false, Int.not_lt, Int.not_le, Decidable.not_not, ne_eq] at hc1
      refine Hd.drawsH ([pt b3 [.int .i64 (onM x pre)] 3]) (fun j => !([4].contains j)) mixed ?_
      simp only [List.length, Nat.zero_add, Nat.reduceAdd]
      first | (refine Hd.takeH 0 rfl (by kernel_rfl) (by kernel_rfl) (by kernel_rfl) (by kernel_rfl) (y_load1 ag3 rfl (Rd.pt1 pkk (by (first | rfl)))) (fun _ _ => rfl) (Ent.sep enn) ?_) | (refine Hd.takeH 0 rfl (by kernel_rfl) (by kernel_rfl) (by kernel_rfl) (by kernel_rfl) (y_load1 ag3 rfl (Rd.seg1 pkk (by (first | rfl)))) (fun _ _ => rfl) (Ent.sep enn) ?_) | (refine Hd.takeH 0 rfl (by kernel_rfl) (by kernel_rfl) (by kernel_rfl) (by kernel_rfl) (y_load1 ag3 rfl (Rd.segK1 pkk (by decide) (by (first | rfl)))) (fun _ _ => rfl) (Ent.sep enn) ?_) | (refine Hd.takeH 0 rfl (by kernel_rfl) (by kernel_rfl) (by kernel_rfl) (by kernel_rfl) (y_loadR1 ag3 rfl (by (first | exact RdS.own pkk)) (by (first | rfl))) (fun _ _ => rfl) (Ent.sep enn) ?_)
      refine Hd.takeH 1 rfl (by kernel_rfl) (by kernel_rfl) (by kernel_rfl) (by kernel_rfl) (y_move rfl) (fun _ _ => rfl) (Ent.sep enn) ?_
      refine Hd.onlyH 2 rfl (by kernel_rfl) ?_
      refine Hd.callE rfl fk45 (flag_ct _ c) (Ent.sep enn) ?_
      intro _
      refine Hd.nil ?_
      refine Hd.thenN ?_
      refine Hd.heldK (J := (fun j => !([4].contains j))) (i := 2) (Ent.sep enn) ?_
      refine Hd.takeH 3 rfl (by kernel_rfl) (by kernel_rfl) (by kernel_rfl) (by kernel_rfl) (y_or rfl rfl) (fun _ _ => rfl) (Ent.sep enn) ?_
      refine Hd.onlyH 4 rfl (by kernel_rfl) ?_
      first | (refine Hd.store1 sz3 rfl rfl rfl pkk (by first | decide | (simp; done) | (simp; omega)) ?_) | (refine Hd.storeG1 sz3 rfl rfl rfl pkk (by first | decide | (simp; done) | (simp; omega)) ?_) | (refine Hd.storeO1 sz3 rfl rfl rfl pkk (by first | omega | (simp; done) | (simp; omega)) ?_) | (refine Hd.storeK1 sz3 rfl rfl rfl pkk (by decide) (by first | decide | (simp; done) | (simp; omega)) ?_)
      try simp only [List.set_cons_zero, List.set_cons_succ]
      refine Hd.nil ?_
      refine Hd.thenN ?_
      refine Hd.heldN (J := (fun j => !([4].contains j))) (i := 4) rfl ?_
      refine Hd.endH (by kernel_rfl) ?_
      refine Hd.slots [(3, _)] ⟨rfl, trivial⟩ ?_
      refine Hd.inB ?_
      clear hK1 hK2 hK3 hK4 hK5 hK6 hK7
      refine Hd.reN ?_
      simp only [List.cons_append, List.nil_append]
      rw [hsn, if_pos hc1]
      exact (Ent.sep enn)
    ·
      try simp only [decide_eq_true_eq, decide_eq_false_iff_not, Bool.and_eq_true, Bool.or_eq_true, Bool.and_eq_false_iff, Bool.or_eq_false_iff, Bool.not_eq_true', Bool.not_eq_false', Bool.not_eq_true, Bool.not_eq_false, Int.not_lt, Int.not_le, Decidable.not_not, ne_eq] at hc1
      refine Hd.skip ?_
      refine Hd.inB ?_
      clear hK1 hK2 hK3 hK4 hK5 hK6 hK7
      refine Hd.reN ?_
      simp only [List.cons_append, List.nil_append]
      rw [hsn, if_neg (by rw [hc1]; simp)]
      exact (Ent.sep enn)
  ·
    intro r0 ys hys
    obtain rfl : ys = sidesA 6 := hys
    try simp only [List.cons_append, List.nil_append]
    refine Hd.inB ?_
    refine Hd.toK hK3 ?_
    refine Hd.seq (fun K8 hK8 => ?_)
    refine Hd.region ?_
    first | (refine Hd.yv (y_load1 ag3 rfl (Rd.pt1 pkk (by (first | rfl)))) ?_) | (refine Hd.yv (y_load1 ag3 rfl (Rd.seg1 pkk (by (first | rfl)))) ?_) | (refine Hd.yv (y_load1 ag3 rfl (Rd.segK1 pkk (by decide) (by (first | rfl)))) ?_) | (refine Hd.yv (y_loadR1 ag3 rfl (by (first | exact RdS.own pkk)) (by (first | rfl))) ?_)
    refine Hd.yv (y_assign rfl) ?_
    refine Hd.nil ?_
    refine Hd.slots [(2, _)] ⟨rfl, trivial⟩ ?_
    refine Hd.toK hK8 ?_
    refine Hd.ret ?_
    clear hK1 hK2 hK3 hK4 hK5 hK8
    exact Hd.retM (fun a fr => Lv.mark pkk (Lv.end1 fr rfl () rfl (Ent.sep enn)))
  ·
    rintro r0_0 (_ | id0) pre0 hG0
    ·
      exact Hd.absurd (by first | exact id | simp)
    ·
      exact Hd.absurd (by first | exact id | simp)
def mrkBad (side low high : Int) : Bool := ((decide (side ≠ 2) && decide (side ≠ 4)) || decide (min low high < 0)) || (decide (max low high > 1048576) || (decide (high ≠ 0) && (decide (high < low) || decide (side = 4))))
abbrev mrkF (low high : Int) (_ : Nat) (s : SdA) : SdA := { s with low := low, high := high }
def mrkB (x : BfA) (side low high : Int) : BfA := if mrkBad side low high = true then x else effB (mrkF low high) x (sidesA side)
def mrkE (side low high : Int) : Int := if mrkBad side low high = true then 2 else 0
set_option maxHeartbeats 2000000 in
theorem marks_ct (L : List SP) (b wb : Nat) (x : BfA) (side low high : Int) : Ct Try.prog 13 #[.pointer (some ⟨b, 0, none⟩), .int .i64 side, .int .i64 low, .int .i64 high] (BufP b wb x :: L) (fun _ : Unit => .int .i64 (mrkE side low high)) (fun _ : Unit => BufP b wb (mrkB x side low high) :: L) := by
  refine Ct.ofM (vs := [.pointer (some ⟨b, 0, none⟩), .int .i64 side, .int .i64 low, .int .i64 high]) Try.func13 rfl rfl [(0, .pointer (some ⟨b, 0, none⟩)), (1, .int .i64 side), (2, .int .i64 low), (3, .int .i64 high)] (by repeat (first | exact trivial | refine ⟨rfl, ?_⟩)) ?_
  intro E
  show Hd E 53 _ _ _ _
  refine Hd.bufK .here 0 (by omega) ?_
  refine Hd.seq (fun K1 hK1 => ?_)
  refine Hd.region ?_
  refine Hd.box rfl rfl (fun b6 => ?_)
  refine Hd.box rfl rfl (fun b7 => ?_)
  refine Hd.yv (y_assign rfl) ?_
  refine Hd.nil ?_
  refine Hd.slots [(0, _), (1, _), (6, _), (7, _)] ⟨rfl, rfl, rfl, rfl, trivial⟩ ?_
  refine Hd.toK hK1 ?_
  refine Hd.cutK (ι := Unit) [(0, _), (1, _), (6, _), (7, _)] (fun _ => []) (fun _ => pu (mrkBad side low high = false) :: BufP b wb x :: pt b6 [.int .i64 low] 3 :: pt b7 [.int .i64 high] 3 :: L) ?_ ?_ ⟨rfl, rfl, rfl, rfl, trivial⟩
  ·
    refine Hd.block ?_
    refine Hd.seq (fun K2 hK2 => ?_)
    refine Hd.region ?_
    refine Hd.yv (y_move rfl) ?_
    refine Hd.callE rfl fk36 (bnone_ct _ b wb x.fd) (Ent.sep enn) ?_
    intro _
    refine Hd.heap (BufP b wb x :: pt b6 [.int .i64 low] 3 :: pt b7 [.int .i64 high] 3 :: L) (fun q s => buf_close rfl rfl rfl q (Ent.sep enn q s)) ?_
    refine Hd.yv (y_assign rfl) ?_
    refine Hd.nil ?_
    refine Hd.slots [(0, _), (1, _), (6, _), (7, _), (11, _)] ⟨rfl, rfl, rfl, rfl, rfl, trivial⟩ ?_
    refine Hd.toK hK2 ?_
    refine Hd.condF rfl ?_
    refine Hd.seq (fun K3 hK3 => ?_)
    refine Hd.seq (fun K4 hK4 => ?_)
    refine Hd.region ?_
    refine Hd.yv (y_move rfl) ?_
    refine Hd.yv (y_neq rfl rfl) ?_
    refine Hd.yv (y_move rfl) ?_
    apply Hd.andg 3 17 20 [(0, _), (1, _), (6, _), (7, _)] rfl ⟨rfl, rfl, rfl, rfl, trivial⟩
    · intro hg3_17
      try simp only [decide_eq_true_eq, decide_eq_false_iff_not, Bool.and_eq_true, Bool.or_eq_true, Bool.and_eq_false_iff, Bool.or_eq_false_iff, Bool.not_eq_true', Bool.not_eq_false', Bool.not_eq_true, Bool.not_eq_false, Int.not_lt, Int.not_le, Decidable.not_not, ne_eq] at hg3_17
      simp only [List.take]
      refine Hd.yg rfl rfl (y_move rfl) ?_
      refine Hd.yg rfl rfl (y_neq rfl rfl) ?_
      first | (refine Hd.yv (y_pickT rfl rfl) ?_) | (refine Hd.yv (y_pickF rfl rfl) ?_) | (refine Hd.yv (y_pickb rfl rfl rfl) ?_) | (refine Hd.yv (y_pick rfl rfl rfl) ?_)
      refine Hd.nil ?_
      exact Hd.mend (by repeat (first | exact trivial | refine ⟨rfl, ?_⟩)) (Ent.sep enn)
    · intro hg3_17
      try simp only [decide_eq_true_eq, decide_eq_false_iff_not, Bool.and_eq_true, Bool.or_eq_true, Bool.and_eq_false_iff, Bool.or_eq_false_iff, Bool.not_eq_true', Bool.not_eq_false', Bool.not_eq_true, Bool.not_eq_false, Int.not_lt, Int.not_le, Decidable.not_not, ne_eq] at hg3_17
      simp only [List.take]
      refine Hd.ng rfl rfl rfl ?_
      refine Hd.ng rfl rfl rfl ?_
      first | (refine Hd.yv (y_pickT rfl rfl) ?_) | (refine Hd.yv (y_pickF rfl rfl) ?_) | (refine Hd.yv (y_pickb rfl rfl rfl) ?_) | (refine Hd.yv (y_pick rfl rfl rfl) ?_)
      refine Hd.nil ?_
      exact Hd.mend (by repeat (first | exact trivial | refine ⟨rfl, ?_⟩)) (Ent.sep enn)
    simp only [List.drop]
    refine Hd.yv (y_assign rfl) ?_
    refine Hd.nil ?_
    refine Hd.slots [(0, _), (1, _), (6, _), (7, _), (14, _)] ⟨rfl, rfl, rfl, rfl, rfl, trivial⟩ ?_
    refine Hd.toK hK4 ?_
    refine Hd.cond rfl (fun hc1 => ?_) (fun hc1 => ?_)
    ·
      try simp only [decide_eq_true_eq, decide_eq_false_iff_not, Bool.and_eq_true, Bool.or_eq_true, Bool.and_eq_false_iff, Bool.or_eq_false_iff, Bool.not_eq_true', Bool.not_eq_false', Bool.not_eq_true, Bool.not_eq_false, Int.not_lt, Int.not_le, Decidable.not_not, ne_eq] at hc1
      refine Hd.skip ?_
      refine Hd.toK hK3 ?_
      refine Hd.cond rfl (fun hc4 => ?_) (fun hc4 => ?_)
      ·
        try simp only [decide_eq_true_eq, decide_eq_false_iff_not, Bool.and_eq_true, Bool.or_eq_true, Bool.and_eq_false_iff, Bool.or_eq_false_iff, Bool.not_eq_true', Bool.not_eq_false', Bool.not_eq_true, Bool.not_eq_false, Int.not_lt, Int.not_le, Decidable.not_not, ne_eq] at hc4
        refine Hd.seq (fun K5 hK5 => ?_)
        refine Hd.region ?_
        refine Hd.yv (y_assign rfl) ?_
        refine Hd.nil ?_
        refine Hd.slots [(8, _)] ⟨rfl, trivial⟩ ?_
        refine Hd.toK hK5 ?_
        refine Hd.ret ?_
        refine Hd.inBret ?_
        refine Hd.thenRet ?_
        clear hK1 hK2 hK3 hK4 hK5
        have hb : mrkBad side low high = true := by unfold mrkBad; simp only [Bool.or_eq_true, Bool.and_eq_true, decide_eq_true_eq]; omega
        rw [show mrkE side low high = 2 by unfold mrkE; rw [if_pos hb], show mrkB x side low high = x by unfold mrkB; rw [if_pos hb]]
        exact Hd.retM (fun a fr => Lv.end1 fr rfl () rfl (Ent.sep enn))
      ·
        try simp only [decide_eq_true_eq, decide_eq_false_iff_not, Bool.and_eq_true, Bool.or_eq_true, Bool.and_eq_false_iff, Bool.or_eq_false_iff, Bool.not_eq_true', Bool.not_eq_false', Bool.not_eq_true, Bool.not_eq_false, Int.not_lt, Int.not_le, Decidable.not_not, ne_eq] at hc4
        refine Hd.skip ?_
        refine Hd.inB ?_
        clear hK1 hK2 hK3 hK4
        refine Hd.thenN ?_
        exfalso; omega
    ·
      try simp only [decide_eq_true_eq, decide_eq_false_iff_not, Bool.and_eq_true, Bool.or_eq_true, Bool.and_eq_false_iff, Bool.or_eq_false_iff, Bool.not_eq_true', Bool.not_eq_false', Bool.not_eq_true, Bool.not_eq_false, Int.not_lt, Int.not_le, Decidable.not_not, ne_eq] at hc1
      refine Hd.seq (fun K6 hK6 => ?_)
      refine Hd.region ?_
      first | (refine Hd.yv (y_load1 ag3 rfl (Rd.pt1 pkk (by (first | rfl)))) ?_) | (refine Hd.yv (y_load1 ag3 rfl (Rd.seg1 pkk (by (first | rfl)))) ?_) | (refine Hd.yv (y_load1 ag3 rfl (Rd.segK1 pkk (by decide) (by (first | rfl)))) ?_) | (refine Hd.yv (y_loadR1 ag3 rfl (by (first | exact RdS.own pkk)) (by (first | rfl))) ?_)
      first | (refine Hd.yv (y_load1 ag3 rfl (Rd.pt1 pkk (by (first | rfl)))) ?_) | (refine Hd.yv (y_load1 ag3 rfl (Rd.seg1 pkk (by (first | rfl)))) ?_) | (refine Hd.yv (y_load1 ag3 rfl (Rd.segK1 pkk (by decide) (by (first | rfl)))) ?_) | (refine Hd.yv (y_loadR1 ag3 rfl (by (first | exact RdS.own pkk)) (by (first | rfl))) ?_)
      refine Hd.yv (y_min rfl rfl) ?_
      refine Hd.yv (y_lss rfl rfl) ?_
      refine Hd.yv (y_assign rfl) ?_
      refine Hd.nil ?_
      refine Hd.slots [(0, _), (1, _), (6, _), (7, _), (14, _)] ⟨rfl, rfl, rfl, rfl, rfl, trivial⟩ ?_
      refine Hd.toK hK6 ?_
      refine Hd.cond rfl (fun hc2 => ?_) (fun hc2 => ?_)
      ·
        try simp only [decide_eq_true_eq, decide_eq_false_iff_not, Bool.and_eq_true, Bool.or_eq_true, Bool.and_eq_false_iff, Bool.or_eq_false_iff, Bool.not_eq_true', Bool.not_eq_false', Bool.not_eq_true, Bool.not_eq_false, Int.not_lt, Int.not_le, Decidable.not_not, ne_eq] at hc2
        refine Hd.skip ?_
        refine Hd.toK hK3 ?_
        refine Hd.cond rfl (fun hc4 => ?_) (fun hc4 => ?_)
        ·
          try simp only [decide_eq_true_eq, decide_eq_false_iff_not, Bool.and_eq_true, Bool.or_eq_true, Bool.and_eq_false_iff, Bool.or_eq_false_iff, Bool.not_eq_true', Bool.not_eq_false', Bool.not_eq_true, Bool.not_eq_false, Int.not_lt, Int.not_le, Decidable.not_not, ne_eq] at hc4
          refine Hd.seq (fun K7 hK7 => ?_)
          refine Hd.region ?_
          refine Hd.yv (y_assign rfl) ?_
          refine Hd.nil ?_
          refine Hd.slots [(8, _)] ⟨rfl, trivial⟩ ?_
          refine Hd.toK hK7 ?_
          refine Hd.ret ?_
          refine Hd.inBret ?_
          refine Hd.thenRet ?_
          clear hK1 hK2 hK3 hK4 hK6 hK7
          have hb : mrkBad side low high = true := by unfold mrkBad; simp only [Bool.or_eq_true, Bool.and_eq_true, decide_eq_true_eq]; omega
          rw [show mrkE side low high = 2 by unfold mrkE; rw [if_pos hb], show mrkB x side low high = x by unfold mrkB; rw [if_pos hb]]
          exact Hd.retM (fun a fr => Lv.end1 fr rfl () rfl (Ent.sep enn))
        ·
          try simp only [decide_eq_true_eq, decide_eq_false_iff_not, Bool.and_eq_true, Bool.or_eq_true, Bool.and_eq_false_iff, Bool.or_eq_false_iff, Bool.not_eq_true', Bool.not_eq_false', Bool.not_eq_true, Bool.not_eq_false, Int.not_lt, Int.not_le, Decidable.not_not, ne_eq] at hc4
          refine Hd.skip ?_
          refine Hd.inB ?_
          clear hK1 hK2 hK3 hK4 hK6
          refine Hd.thenN ?_
          exfalso; omega
      ·
        try simp only [decide_eq_true_eq, decide_eq_false_iff_not, Bool.and_eq_true, Bool.or_eq_true, Bool.and_eq_false_iff, Bool.or_eq_false_iff, Bool.not_eq_true', Bool.not_eq_false', Bool.not_eq_true, Bool.not_eq_false, Int.not_lt, Int.not_le, Decidable.not_not, ne_eq] at hc2
        refine Hd.seq (fun K8 hK8 => ?_)
        refine Hd.region ?_
        first | (refine Hd.yv (y_load1 ag3 rfl (Rd.pt1 pkk (by (first | rfl)))) ?_) | (refine Hd.yv (y_load1 ag3 rfl (Rd.seg1 pkk (by (first | rfl)))) ?_) | (refine Hd.yv (y_load1 ag3 rfl (Rd.segK1 pkk (by decide) (by (first | rfl)))) ?_) | (refine Hd.yv (y_loadR1 ag3 rfl (by (first | exact RdS.own pkk)) (by (first | rfl))) ?_)
        first | (refine Hd.yv (y_load1 ag3 rfl (Rd.pt1 pkk (by (first | rfl)))) ?_) | (refine Hd.yv (y_load1 ag3 rfl (Rd.seg1 pkk (by (first | rfl)))) ?_) | (refine Hd.yv (y_load1 ag3 rfl (Rd.segK1 pkk (by decide) (by (first | rfl)))) ?_) | (refine Hd.yv (y_loadR1 ag3 rfl (by (first | exact RdS.own pkk)) (by (first | rfl))) ?_)
        refine Hd.yv (y_max rfl rfl) ?_
        refine Hd.yv (y_gtr rfl rfl) ?_
        refine Hd.yv (y_assign rfl) ?_
        refine Hd.nil ?_
        refine Hd.slots [(0, _), (1, _), (6, _), (7, _), (14, _)] ⟨rfl, rfl, rfl, rfl, rfl, trivial⟩ ?_
        refine Hd.toK hK8 ?_
        refine Hd.cond rfl (fun hc3 => ?_) (fun hc3 => ?_)
        ·
          try simp only [decide_eq_true_eq, decide_eq_false_iff_not, Bool.and_eq_true, Bool.or_eq_true, Bool.and_eq_false_iff, Bool.or_eq_false_iff, Bool.not_eq_true', Bool.not_eq_false', Bool.not_eq_true, Bool.not_eq_false, Int.not_lt, Int.not_le, Decidable.not_not, ne_eq] at hc3
          refine Hd.skip ?_
          refine Hd.toK hK3 ?_
          refine Hd.cond rfl (fun hc4 => ?_) (fun hc4 => ?_)
          ·
            try simp only [decide_eq_true_eq, decide_eq_false_iff_not, Bool.and_eq_true, Bool.or_eq_true, Bool.and_eq_false_iff, Bool.or_eq_false_iff, Bool.not_eq_true', Bool.not_eq_false', Bool.not_eq_true, Bool.not_eq_false, Int.not_lt, Int.not_le, Decidable.not_not, ne_eq] at hc4
            refine Hd.seq (fun K9 hK9 => ?_)
            refine Hd.region ?_
            refine Hd.yv (y_assign rfl) ?_
            refine Hd.nil ?_
            refine Hd.slots [(8, _)] ⟨rfl, trivial⟩ ?_
            refine Hd.toK hK9 ?_
            refine Hd.ret ?_
            refine Hd.inBret ?_
            refine Hd.thenRet ?_
            clear hK1 hK2 hK3 hK4 hK6 hK8 hK9
            have hb : mrkBad side low high = true := by unfold mrkBad; simp only [Bool.or_eq_true, Bool.and_eq_true, decide_eq_true_eq]; omega
            rw [show mrkE side low high = 2 by unfold mrkE; rw [if_pos hb], show mrkB x side low high = x by unfold mrkB; rw [if_pos hb]]
            exact Hd.retM (fun a fr => Lv.end1 fr rfl () rfl (Ent.sep enn))
          ·
            try simp only [decide_eq_true_eq, decide_eq_false_iff_not, Bool.and_eq_true, Bool.or_eq_true, Bool.and_eq_false_iff, Bool.or_eq_false_iff, Bool.not_eq_true', Bool.not_eq_false', Bool.not_eq_true, Bool.not_eq_false, Int.not_lt, Int.not_le, Decidable.not_not, ne_eq] at hc4
            refine Hd.skip ?_
            refine Hd.inB ?_
            clear hK1 hK2 hK3 hK4 hK6 hK8
            refine Hd.thenN ?_
            exfalso; omega
        ·
          try simp only [decide_eq_true_eq, decide_eq_false_iff_not, Bool.and_eq_true, Bool.or_eq_true, Bool.and_eq_false_iff, Bool.or_eq_false_iff, Bool.not_eq_true', Bool.not_eq_false', Bool.not_eq_true, Bool.not_eq_false, Int.not_lt, Int.not_le, Decidable.not_not, ne_eq] at hc3
          refine Hd.region ?_
          first | (refine Hd.yv (y_load1 ag3 rfl (Rd.pt1 pkk (by (first | rfl)))) ?_) | (refine Hd.yv (y_load1 ag3 rfl (Rd.seg1 pkk (by (first | rfl)))) ?_) | (refine Hd.yv (y_load1 ag3 rfl (Rd.segK1 pkk (by decide) (by (first | rfl)))) ?_) | (refine Hd.yv (y_loadR1 ag3 rfl (by (first | exact RdS.own pkk)) (by (first | rfl))) ?_)
          refine Hd.yv (y_neq rfl rfl) ?_
          refine Hd.yv (y_move rfl) ?_
          apply Hd.andg 8 31 39 [(0, _), (1, _), (6, _), (7, _)] rfl ⟨rfl, rfl, rfl, rfl, trivial⟩
          · intro hg6_31
            try simp only [decide_eq_true_eq, decide_eq_false_iff_not, Bool.and_eq_true, Bool.or_eq_true, Bool.and_eq_false_iff, Bool.or_eq_false_iff, Bool.not_eq_true', Bool.not_eq_false', Bool.not_eq_true, Bool.not_eq_false, Int.not_lt, Int.not_le, Decidable.not_not, ne_eq] at hg6_31
            simp only [List.take]
            first | (refine Hd.yg rfl rfl (y_load1 ag3 rfl (Rd.pt1 pkk (by (first | rfl)))) ?_) | (refine Hd.yg rfl rfl (y_load1 ag3 rfl (Rd.seg1 pkk (by (first | rfl)))) ?_) | (refine Hd.yg rfl rfl (y_load1 ag3 rfl (Rd.segK1 pkk (by decide) (by (first | rfl)))) ?_) | (refine Hd.yg rfl rfl (y_loadR1 ag3 rfl (by (first | exact RdS.own pkk)) (by (first | rfl))) ?_)
            first | (refine Hd.yg rfl rfl (y_load1 ag3 rfl (Rd.pt1 pkk (by (first | rfl)))) ?_) | (refine Hd.yg rfl rfl (y_load1 ag3 rfl (Rd.seg1 pkk (by (first | rfl)))) ?_) | (refine Hd.yg rfl rfl (y_load1 ag3 rfl (Rd.segK1 pkk (by decide) (by (first | rfl)))) ?_) | (refine Hd.yg rfl rfl (y_loadR1 ag3 rfl (by (first | exact RdS.own pkk)) (by (first | rfl))) ?_)
            refine Hd.yg rfl rfl (y_lss rfl rfl) ?_
            refine Hd.yg rfl rfl (y_move rfl) ?_
            apply Hd.org 3 35 38 [(0, _), (1, _), (6, _), (7, _), (31, _)] rfl ⟨rfl, rfl, rfl, rfl, rfl, trivial⟩
            · intro hg6_35
              try simp only [decide_eq_true_eq, decide_eq_false_iff_not, Bool.and_eq_true, Bool.or_eq_true, Bool.and_eq_false_iff, Bool.or_eq_false_iff, Bool.not_eq_true', Bool.not_eq_false', Bool.not_eq_true, Bool.not_eq_false, Int.not_lt, Int.not_le, Decidable.not_not, ne_eq] at hg6_35
              simp only [List.take]
              refine Hd.ng rfl rfl rfl ?_
              refine Hd.ng rfl rfl rfl ?_
              first | (refine Hd.yg rfl rfl (y_pickT rfl rfl) ?_) | (refine Hd.yg rfl rfl (y_pickF rfl rfl) ?_) | (refine Hd.yg rfl rfl (y_pickb rfl rfl rfl) ?_) | (refine Hd.yg rfl rfl (y_pick rfl rfl rfl) ?_)
              refine Hd.nil ?_
              exact Hd.mend (by repeat (first | exact trivial | refine ⟨rfl, ?_⟩)) (Ent.sep enn)
            · intro hg6_35
              try simp only [decide_eq_true_eq, decide_eq_false_iff_not, Bool.and_eq_true, Bool.or_eq_true, Bool.and_eq_false_iff, Bool.or_eq_false_iff, Bool.not_eq_true', Bool.not_eq_false', Bool.not_eq_true, Bool.not_eq_false, Int.not_lt, Int.not_le, Decidable.not_not, ne_eq] at hg6_35
              simp only [List.take]
              refine Hd.yg rfl rfl (y_move rfl) ?_
              first | (refine Hd.yg rfl rfl (y_eqlT rfl rfl) ?_) | (refine Hd.yg rfl rfl (y_eql rfl rfl) ?_)
              first | (refine Hd.yg rfl rfl (y_pickT rfl rfl) ?_) | (refine Hd.yg rfl rfl (y_pickF rfl rfl) ?_) | (refine Hd.yg rfl rfl (y_pickb rfl rfl rfl) ?_) | (refine Hd.yg rfl rfl (y_pick rfl rfl rfl) ?_)
              refine Hd.nil ?_
              exact Hd.mend (by repeat (first | exact trivial | refine ⟨rfl, ?_⟩)) (Ent.sep enn)
            simp only [List.drop]
            first | (refine Hd.yv (y_pickT rfl rfl) ?_) | (refine Hd.yv (y_pickF rfl rfl) ?_) | (refine Hd.yv (y_pickb rfl rfl rfl) ?_) | (refine Hd.yv (y_pick rfl rfl rfl) ?_)
            refine Hd.nil ?_
            exact Hd.mend (by repeat (first | exact trivial | refine ⟨rfl, ?_⟩)) (Ent.sep enn)
          · intro hg6_31
            try simp only [decide_eq_true_eq, decide_eq_false_iff_not, Bool.and_eq_true, Bool.or_eq_true, Bool.and_eq_false_iff, Bool.or_eq_false_iff, Bool.not_eq_true', Bool.not_eq_false', Bool.not_eq_true, Bool.not_eq_false, Int.not_lt, Int.not_le, Decidable.not_not, ne_eq] at hg6_31
            simp only [List.take]
            refine Hd.ng rfl rfl rfl ?_
            refine Hd.ng rfl rfl rfl ?_
            refine Hd.ng rfl rfl rfl ?_
            refine Hd.ng rfl rfl rfl ?_
            refine Hd.ng rfl rfl rfl ?_
            refine Hd.ng rfl rfl rfl ?_
            refine Hd.ng rfl rfl rfl ?_
            first | (refine Hd.yv (y_pickT rfl rfl) ?_) | (refine Hd.yv (y_pickF rfl rfl) ?_) | (refine Hd.yv (y_pickb rfl rfl rfl) ?_) | (refine Hd.yv (y_pick rfl rfl rfl) ?_)
            refine Hd.nil ?_
            exact Hd.mend (by repeat (first | exact trivial | refine ⟨rfl, ?_⟩)) (Ent.sep enn)
          simp only [List.drop]
          refine Hd.yv (y_assign rfl) ?_
          refine Hd.nil ?_
          refine Hd.slots [(0, _), (1, _), (6, _), (7, _), (14, _)] ⟨rfl, rfl, rfl, rfl, rfl, trivial⟩ ?_
          refine Hd.toK hK3 ?_
          refine Hd.cond rfl (fun hc4 => ?_) (fun hc4 => ?_)
          ·
            try simp only [decide_eq_true_eq, decide_eq_false_iff_not, Bool.and_eq_true, Bool.or_eq_true, Bool.and_eq_false_iff, Bool.or_eq_false_iff, Bool.not_eq_true', Bool.not_eq_false', Bool.not_eq_true, Bool.not_eq_false, Int.not_lt, Int.not_le, Decidable.not_not, ne_eq] at hc4
            refine Hd.seq (fun K10 hK10 => ?_)
            refine Hd.region ?_
            refine Hd.yv (y_assign rfl) ?_
            refine Hd.nil ?_
            refine Hd.slots [(8, _)] ⟨rfl, trivial⟩ ?_
            refine Hd.toK hK10 ?_
            refine Hd.ret ?_
            refine Hd.inBret ?_
            refine Hd.thenRet ?_
            clear hK1 hK2 hK3 hK4 hK6 hK8 hK10
            have hb : mrkBad side low high = true := by unfold mrkBad; simp only [Bool.or_eq_true, Bool.and_eq_true, decide_eq_true_eq]; omega
            rw [show mrkE side low high = 2 by unfold mrkE; rw [if_pos hb], show mrkB x side low high = x by unfold mrkB; rw [if_pos hb]]
            exact Hd.retM (fun a fr => Lv.end1 fr rfl () rfl (Ent.sep enn))
          ·
            try simp only [decide_eq_true_eq, decide_eq_false_iff_not, Bool.and_eq_true, Bool.or_eq_true, Bool.and_eq_false_iff, Bool.or_eq_false_iff, Bool.not_eq_true', Bool.not_eq_false', Bool.not_eq_true, Bool.not_eq_false, Int.not_lt, Int.not_le, Decidable.not_not, ne_eq] at hc4
            refine Hd.skip ?_
            refine Hd.inB ?_
            clear hK1 hK2 hK3 hK4 hK6 hK8
            refine Hd.thenN ?_
            have hb : mrkBad side low high = false := by unfold mrkBad; simp only [Bool.or_eq_false_iff, Bool.and_eq_false_iff, decide_eq_false_iff_not]; omega
            exact Hd.meet () (by repeat (first | exact trivial | refine ⟨rfl, ?_⟩)) (Ent.sep (.pure hb enn))
  ·
    intro _
    refine Hd.pure (fun hbad => ?_)
    refine Hd.seq (fun K11 hK11 => ?_)
    refine Hd.seq (fun K12 hK12 => ?_)
    refine Hd.region ?_
    refine Hd.yv (y_move rfl) ?_
    refine Hd.yv (y_move rfl) ?_
    refine Hd.callE rfl fk37 (some_ct _ (some ⟨b, 0, none⟩) side) (Ent.sep enn) ?_
    rintro ⟨bb, bm⟩
    dsimp only
    refine Hd.nil ?_
    refine Hd.slots [(6, _), (7, _), (42, _)] ⟨rfl, rfl, rfl, trivial⟩ ?_
    refine Hd.toK hK12 ?_
    refine Hd.block ?_
    refine Hd.rangeF (enc := encK b) (S := fun ys => ys = sidesA side) (Sp := fun ys => ys <+: sidesA side)
      (fun pre => BufP b wb (effB (mrkF low high) x pre) :: pt b6 [.int .i64 low] 3 :: pt b7 [.int .i64 high] 3 :: L) (fun _ _ => [pu False])
      rfl (by kernel_rfl) (fun _ => rfl) rfl (some_it b bb bm side) (by rw [eff_nil]; refine Ent.sep ?_; refine Ent.pick pkk ?_; refine Ent.pick pkk ?_; refine Ent.pick pkk ?_; exact Ent.swap (L := [_, _])) ?_ ?_ ?_
    ·
      intro E l' R pre c N hR hG
      obtain ⟨hc, hcp⟩ := pre_new hG
      have hsn := eff_snoc (f := mrkF low high) (x := x) hcp
      unfold Rnd
      simp only [List.cons_append, List.nil_append, pz, encK]
      refine Hd.region ?_
      refine Hd.yv (y_assign rfl) ?_
      refine Hd.nil ?_
      refine Hd.slots [(6, _), (7, _), (10, _)] ⟨rfl, rfl, rfl, trivial⟩ ?_
      refine Hd.thenN ?_
      refine Hd.begin hR pkk ?_
      refine Hd.block ?_
      refine Hd.bufK (b := b) pkk c hc ?_
      rw [bfL_eff hcp]
      refine Hd.drawsH ([pt b6 [.int .i64 low] 3, pt b7 [.int .i64 high] 3]) (fun j => !(([1000] : List Nat).contains j)) mixed ?_
      simp only [List.length, Nat.zero_add, Nat.reduceAdd]
      refine Hd.takeH 0 rfl (by kernel_rfl) (by kernel_rfl) (by kernel_rfl) (by kernel_rfl) (y_move rfl) (fun _ _ => rfl) (Ent.sep enn) ?_
      refine Hd.takeH 1 rfl (by kernel_rfl) (by kernel_rfl) (by kernel_rfl) (by kernel_rfl) (y_move rfl) (fun _ _ => rfl) (Ent.sep enn) ?_
      first | (refine Hd.takeH 2 rfl (by kernel_rfl) (by kernel_rfl) (by kernel_rfl) (by kernel_rfl) (y_load1 ag3 rfl (Rd.pt1 pkk (by (first | rfl)))) (fun _ _ => rfl) (Ent.sep enn) ?_) | (refine Hd.takeH 2 rfl (by kernel_rfl) (by kernel_rfl) (by kernel_rfl) (by kernel_rfl) (y_load1 ag3 rfl (Rd.seg1 pkk (by (first | rfl)))) (fun _ _ => rfl) (Ent.sep enn) ?_) | (refine Hd.takeH 2 rfl (by kernel_rfl) (by kernel_rfl) (by kernel_rfl) (by kernel_rfl) (y_load1 ag3 rfl (Rd.segK1 pkk (by decide) (by (first | rfl)))) (fun _ _ => rfl) (Ent.sep enn) ?_) | (refine Hd.takeH 2 rfl (by kernel_rfl) (by kernel_rfl) (by kernel_rfl) (by kernel_rfl) (y_loadR1 ag3 rfl (by (first | exact RdS.own pkk)) (by (first | rfl))) (fun _ _ => rfl) (Ent.sep enn) ?_)
      first | (refine Hd.takeH 3 rfl (by kernel_rfl) (by kernel_rfl) (by kernel_rfl) (by kernel_rfl) (y_load1 ag3 rfl (Rd.pt1 pkk (by (first | rfl)))) (fun _ _ => rfl) (Ent.sep enn) ?_) | (refine Hd.takeH 3 rfl (by kernel_rfl) (by kernel_rfl) (by kernel_rfl) (by kernel_rfl) (y_load1 ag3 rfl (Rd.seg1 pkk (by (first | rfl)))) (fun _ _ => rfl) (Ent.sep enn) ?_) | (refine Hd.takeH 3 rfl (by kernel_rfl) (by kernel_rfl) (by kernel_rfl) (by kernel_rfl) (y_load1 ag3 rfl (Rd.segK1 pkk (by decide) (by (first | rfl)))) (fun _ _ => rfl) (Ent.sep enn) ?_) | (refine Hd.takeH 3 rfl (by kernel_rfl) (by kernel_rfl) (by kernel_rfl) (by kernel_rfl) (y_loadR1 ag3 rfl (by (first | exact RdS.own pkk)) (by (first | rfl))) (fun _ _ => rfl) (Ent.sep enn) ?_)
      refine Hd.takeH 4 rfl (by kernel_rfl) (by kernel_rfl) (by kernel_rfl) (by kernel_rfl) (y_nilp rfl) (fun _ _ => rfl) (Ent.sep enn) ?_
      first | (refine Hd.takeH 5 rfl (by kernel_rfl) (by kernel_rfl) (by kernel_rfl) (by kernel_rfl) (y_field' (q := 4) (ft := 3) Try.underlying91 rfl sz3 rfl rfl) (fun _ _ => rfl) (Ent.sep enn) ?_) | (refine Hd.takeH 5 rfl (by kernel_rfl) (by kernel_rfl) (by kernel_rfl) (by kernel_rfl) (y_fieldR (q := 4) (ft := 3) Try.underlying91 rfl sz3 rfl rfl) (fun _ _ => rfl) (Ent.sep enn) ?_)
      refine Hd.onlyH 6 rfl (by kernel_rfl) ?_
      first | (refine Hd.store1 sz3 rfl rfl rfl pkk (by first | decide | (simp; done) | (simp; omega)) ?_) | (refine Hd.storeG1 sz3 rfl rfl rfl pkk (by first | decide | (simp; done) | (simp; omega)) ?_) | (refine Hd.storeO1 sz3 rfl rfl rfl pkk (by first | omega | (simp; done) | (simp; omega)) ?_) | (refine Hd.storeK1 sz3 rfl rfl rfl pkk (by decide) (by first | decide | (simp; done) | (simp; omega)) ?_)
      try simp only [List.set_cons_zero, List.set_cons_succ]
      refine Hd.nil ?_
      refine Hd.thenN ?_
      refine Hd.heldK (J := (fun j => !(([1000] : List Nat).contains j))) (i := 6) (Ent.sep enn) ?_
      refine Hd.takeH 7 rfl (by kernel_rfl) (by kernel_rfl) (by kernel_rfl) (by kernel_rfl) (y_nilp rfl) (fun _ _ => rfl) (Ent.sep enn) ?_
      first | (refine Hd.takeH 8 rfl (by kernel_rfl) (by kernel_rfl) (by kernel_rfl) (by kernel_rfl) (y_field' (q := 5) (ft := 3) Try.underlying91 rfl sz3 rfl rfl) (fun _ _ => rfl) (Ent.sep enn) ?_) | (refine Hd.takeH 8 rfl (by kernel_rfl) (by kernel_rfl) (by kernel_rfl) (by kernel_rfl) (y_fieldR (q := 5) (ft := 3) Try.underlying91 rfl sz3 rfl rfl) (fun _ _ => rfl) (Ent.sep enn) ?_)
      refine Hd.onlyH 9 rfl (by kernel_rfl) ?_
      first | (refine Hd.store1 sz3 rfl rfl rfl pkk (by first | decide | (simp; done) | (simp; omega)) ?_) | (refine Hd.storeG1 sz3 rfl rfl rfl pkk (by first | decide | (simp; done) | (simp; omega)) ?_) | (refine Hd.storeO1 sz3 rfl rfl rfl pkk (by first | omega | (simp; done) | (simp; omega)) ?_) | (refine Hd.storeK1 sz3 rfl rfl rfl pkk (by decide) (by first | decide | (simp; done) | (simp; omega)) ?_)
      try simp only [List.set_cons_zero, List.set_cons_succ]
      refine Hd.nil ?_
      refine Hd.thenN ?_
      refine Hd.heldK (J := (fun j => !(([1000] : List Nat).contains j))) (i := 9) (Ent.sep enn) ?_
      refine Hd.endH (by kernel_rfl) ?_
      refine Hd.heap (BufP b wb ((effB (mrkF low high) x pre).up c fun _ => mrkF low high c (x.s c)) :: _) (fun q s => buf_putK hc q (by rw [bfL_up hc]; exact Ent.sep enn q s)) ?_
      refine Hd.slots [] trivial ?_
      refine Hd.inB ?_
      clear hK1 hK11 hK12
      refine Hd.reN ?_
      simp only [List.cons_append, List.nil_append]
      rw [← hsn]
      exact (Ent.sep enn)
    ·
      intro r0 ys hys
      obtain rfl : ys = sidesA side := hys
      try simp only [List.cons_append, List.nil_append]
      refine Hd.inB ?_
      refine Hd.toK hK11 ?_
      refine Hd.seq (fun K13 hK13 => ?_)
      refine Hd.region ?_
      refine Hd.yv (y_assign rfl) ?_
      refine Hd.nil ?_
      refine Hd.slots [(8, _)] ⟨rfl, trivial⟩ ?_
      refine Hd.toK hK13 ?_
      refine Hd.ret ?_
      clear hK1 hK11 hK12 hK13
      rw [show mrkE side low high = 0 by unfold mrkE; rw [if_neg (by rw [hbad]; simp)], show mrkB x side low high = effB (mrkF low high) x (sidesA side) by unfold mrkB; rw [if_neg (by rw [hbad]; simp)]]
      exact Hd.retM (fun a fr => Lv.mark pkk (Lv.end1 fr rfl () rfl (Ent.sep enn)))
    ·
      rintro r0_0 (_ | id0) pre0 hG0
      ·
        exact Hd.absurd (by first | exact id | simp)
      ·
        exact Hd.absurd (by first | exact id | simp)
end Bu
end Go.Proofs.Ytmpemhbfgbochaa
namespace Go.Proofs.Ytmpemhbfgbochaa
set_option linter.unusedSimpArgs false
set_option linter.unusedVariables false
set_option linter.unnecessarySimpa false
open Go.RX Fx
namespace Bu
open Wo
set_option maxRecDepth 8000
def wantK (x : BfA) (k : Nat) : Bool := !(x.s k).ended && ((decide ((k : Int) = 0) && (decide ((x.s k).high = 0) || decide (((x.s k).c.length : Int) < (x.s k).high))) || (decide ((k : Int) = 1) && decide (((x.s k).c.length : Int) > 0)))
def waM (x : BfA) (ks : List Nat) : Int := ks.foldl (fun m k => if wantK x k = true then bits .or .i64 m (flagA k) else m) 0
theorem waM_snoc (x : BfA) (ks : List Nat) (k : Nat) : waM x (ks ++ [k]) = if wantK x k = true then bits .or .i64 (waM x ks) (flagA k) else waM x ks := by unfold waM; rw [List.foldl_append]; rfl
def wantsA (x : BfA) : Int := waM x (sidesA (onM x (sidesA 6)))
set_option maxHeartbeats 2000000 in
theorem wants_ct (L : List SP) (b wb : Nat) (x : BfA) : Ct Try.prog 26 #[.pointer (some ⟨b, 0, none⟩)] (BufP b wb x :: L) (fun _ : Unit => .int .i64 (wantsA x)) (fun _ : Unit => BufP b wb x :: L) := by
  refine Ct.ofM (vs := [.pointer (some ⟨b, 0, none⟩)]) Try.func26 rfl rfl [(0, .pointer (some ⟨b, 0, none⟩))] (by repeat (first | exact trivial | refine ⟨rfl, ?_⟩)) ?_
  intro E
  show Hd E 54 _ _ _ _
  refine Hd.bufK .here 0 (by omega) ?_
  refine Hd.seq (fun K1 hK1 => ?_)
  refine Hd.region ?_
  refine Hd.yv (y_assign rfl) ?_
  refine Hd.nil ?_
  refine Hd.slots [(0, _)] ⟨rfl, trivial⟩ ?_
  refine Hd.toK hK1 ?_
  refine Hd.seq (fun K2 hK2 => ?_)
  refine Hd.region ?_
  refine Hd.alloc zr3 (fun b3 => ?_)
  first | (refine Hd.store1 sz3 rfl rfl rfl pkk (by first | decide | (simp; done) | (simp; omega)) ?_) | (refine Hd.storeG1 sz3 rfl rfl rfl pkk (by first | decide | (simp; done) | (simp; omega)) ?_) | (refine Hd.storeO1 sz3 rfl rfl rfl pkk (by first | omega | (simp; done) | (simp; omega)) ?_) | (refine Hd.storeK1 sz3 rfl rfl rfl pkk (by decide) (by first | decide | (simp; done) | (simp; omega)) ?_)
  try simp only [List.set_cons_zero, List.set_cons_succ]
  refine Hd.nil ?_
  refine Hd.slots [(0, _), (3, _)] ⟨rfl, rfl, trivial⟩ ?_
  refine Hd.toK hK2 ?_
  refine Hd.seq (fun K3 hK3 => ?_)
  refine Hd.seq (fun K4 hK4 => ?_)
  refine Hd.region ?_
  refine Hd.yv (y_move rfl) ?_
  refine Hd.callE rfl fk36 (bnone_ct _ b wb x.fd) (Ent.sep enn) ?_
  intro _
  refine Hd.heap (BufP b wb x :: pt b3 [.int .i64 0] 3 :: L) (fun q s => buf_close rfl rfl rfl q (Ent.sep enn q s)) ?_
  refine Hd.nil ?_
  refine Hd.slots [(0, _), (3, _), (8, _)] ⟨rfl, rfl, rfl, trivial⟩ ?_
  refine Hd.toK hK4 ?_
  refine Hd.condF rfl ?_
  refine Hd.skip ?_
  refine Hd.toK hK3 ?_
  refine Hd.seq (fun K5 hK5 => ?_)
  refine Hd.seq (fun K6 hK6 => ?_)
  refine Hd.region ?_
  refine Hd.yv (y_move rfl) ?_
  refine Hd.yv (y_move rfl) ?_
  refine Hd.callE rfl fk23 (enabled_ct _ b wb x) (Ent.sep enn) ?_
  intro _
  refine Hd.callE rfl fk37 (some_ct _ (some ⟨b, 0, none⟩) (onM x (sidesA 6))) (Ent.sep enn) ?_
  rintro ⟨bb, bm⟩
  dsimp only
  refine Hd.nil ?_
  refine Hd.slots [(3, _), (13, _)] ⟨rfl, rfl, trivial⟩ ?_
  refine Hd.toK hK6 ?_
  refine Hd.block ?_
  refine Hd.rangeF (enc := encK b) (S := fun ys => ys = sidesA (onM x (sidesA 6))) (Sp := fun ys => ys <+: sidesA (onM x (sidesA 6)))
    (fun pre => pt b3 [.int .i64 (waM x pre)] 3 :: BufP b wb x :: L) (fun _ _ => [pu False])
    rfl (by kernel_rfl) (fun _ => rfl) rfl (some_it b bb bm (onM x (sidesA 6))) (by refine Ent.sep ?_; refine Ent.eq pkk (pt_eq (by rfl)) ?_; refine Ent.pick pkk ?_; exact Ent.swap (L := [_, _])) ?_ ?_ ?_
  ·
    intro E l' R pre c N hR hG
    obtain ⟨hc, hcp⟩ := pre_new hG
    have hsn := waM_snoc x pre c
    unfold Rnd
    simp only [List.cons_append, List.nil_append, pz, encK]
    refine Hd.seq (fun K7 hK7 => ?_)
    refine Hd.region ?_
    refine Hd.yv (y_assign rfl) ?_
    refine Hd.nil ?_
    refine Hd.slots [(3, _), (4, _), (15, _)] ⟨rfl, rfl, rfl, trivial⟩ ?_
    refine Hd.toK hK7 ?_
    refine Hd.region ?_
    refine Hd.yv (y_assign rfl) ?_
    refine Hd.nil ?_
    refine Hd.slots [(3, _), (4, _), (5, _)] ⟨rfl, rfl, rfl, trivial⟩ ?_
    refine Hd.thenN ?_
    refine Hd.begin hR pkk ?_
    refine Hd.block ?_
    refine Hd.seq (fun K8 hK8 => ?_)
    refine Hd.bufK (b := b) pkk c hc ?_
    refine Hd.region ?_
    refine Hd.yv (y_move rfl) ?_
    refine Hd.yv (y_nilp rfl) ?_
    first | (refine Hd.yv (y_field' (q := 0) (ft := 89) Try.underlying91 rfl sz89 rfl rfl) ?_) | (refine Hd.yv (y_fieldR (q := 0) (ft := 89) Try.underlying91 rfl sz89 rfl rfl) ?_)
    refine Hd.callE rfl fk41 (chLen _ b (2 + c * 8 + 0) (x.s c).c) (Ent.sep enn) ?_
    intro _
    refine Hd.yv (y_assign rfl) ?_
    refine Hd.nil ?_
    refine Hd.slots [(3, _), (4, _), (5, _), (6, _)] ⟨rfl, rfl, rfl, rfl, trivial⟩ ?_
    refine Hd.toK hK8 ?_
    refine Hd.block ?_
    refine Hd.seq (fun K9 hK9 => ?_)
    refine Hd.region ?_
    refine Hd.yv (y_move rfl) ?_
    refine Hd.yv (y_nilp rfl) ?_
    first | (refine Hd.yv (y_field' (q := 3) (ft := 4) Try.underlying91 rfl sz4 rfl rfl) ?_) | (refine Hd.yv (y_fieldR (q := 3) (ft := 4) Try.underlying91 rfl sz4 rfl rfl) ?_)
    first | (refine Hd.yv (y_load1 ag4 rfl (Rd.pt1 pkk (by (first | rfl)))) ?_) | (refine Hd.yv (y_load1 ag4 rfl (Rd.seg1 pkk (by (first | rfl)))) ?_) | (refine Hd.yv (y_load1 ag4 rfl (Rd.segK1 pkk (by decide) (by (first | rfl)))) ?_) | (refine Hd.yv (y_loadR1 ag4 rfl (by (first | exact RdS.own pkk)) (by (first | rfl))) ?_)
    refine Hd.yv (y_assign rfl) ?_
    refine Hd.nil ?_
    refine Hd.slots [(3, _), (4, _), (5, _), (6, _), (20, _)] ⟨rfl, rfl, rfl, rfl, rfl, trivial⟩ ?_
    refine Hd.toK hK9 ?_
    refine Hd.cond rfl (fun hc1 => ?_) (fun hc1 => ?_)
    ·
      try simp only [decide_eq_true_eq, decide_eq_false_iff_not, Bool.and_eq_true, Bool.or_eq_true, Bool.and_eq_false_iff, Bool.or_eq_false_iff, Bool.not_eq_true', Bool.not_eq_false', Bool.not_eq_true, Bool.not_eq_false, Int.not_lt, Int.not_le, Decidable.not_not, ne_eq] at hc1
      refine Hd.heap (BufP b wb x :: _) (fun q s => buf_backK hc q (by exact Ent.sep enn q s)) ?_
      rw [if_neg (by unfold wantK; rw [hc1]; simp)] at hsn
      refine Hd.skip ?_
      refine Hd.inB ?_
      refine Hd.inB ?_
      clear hK1 hK2 hK3 hK4 hK5 hK6 hK7 hK8 hK9
      refine Hd.reN ?_
      simp only [List.cons_append, List.nil_append]
      rw [hsn]
      exact (Ent.sep enn)
    ·
      try simp only [decide_eq_true_eq, decide_eq_false_iff_not, Bool.and_eq_true, Bool.or_eq_true, Bool.and_eq_false_iff, Bool.or_eq_false_iff, Bool.not_eq_true', Bool.not_eq_false', Bool.not_eq_true, Bool.not_eq_false, Int.not_lt, Int.not_le, Decidable.not_not, ne_eq] at hc1
      refine Hd.seq (fun K10 hK10 => ?_)
      refine Hd.seq (fun K11 hK11 => ?_)
      refine Hd.region ?_
      refine Hd.yv (y_move rfl) ?_
      first | (refine Hd.yv (y_eqlT rfl rfl) ?_) | (refine Hd.yv (y_eql rfl rfl) ?_)
      refine Hd.yv (y_move rfl) ?_
      apply Hd.andg 14 28 42 [(3, _), (4, _), (6, _)] rfl ⟨rfl, rfl, rfl, trivial⟩
      · intro hg9_28
        try simp only [decide_eq_true_eq, decide_eq_false_iff_not, Bool.and_eq_true, Bool.or_eq_true, Bool.and_eq_false_iff, Bool.or_eq_false_iff, Bool.not_eq_true', Bool.not_eq_false', Bool.not_eq_true, Bool.not_eq_false, Int.not_lt, Int.not_le, Decidable.not_not, ne_eq] at hg9_28
        simp only [List.take]
        refine Hd.yg rfl rfl (y_move rfl) ?_
        refine Hd.yg rfl rfl (y_nilp rfl) ?_
        first | (refine Hd.yg rfl rfl (y_field' (q := 5) (ft := 3) Try.underlying91 rfl sz3 rfl rfl) ?_) | (refine Hd.yg rfl rfl (y_fieldR (q := 5) (ft := 3) Try.underlying91 rfl sz3 rfl rfl) ?_)
        first | (refine Hd.yg rfl rfl (y_load1 ag3 rfl (Rd.pt1 pkk (by (first | rfl)))) ?_) | (refine Hd.yg rfl rfl (y_load1 ag3 rfl (Rd.seg1 pkk (by (first | rfl)))) ?_) | (refine Hd.yg rfl rfl (y_load1 ag3 rfl (Rd.segK1 pkk (by decide) (by (first | rfl)))) ?_) | (refine Hd.yg rfl rfl (y_loadR1 ag3 rfl (by (first | exact RdS.own pkk)) (by (first | rfl))) ?_)
        first | (refine Hd.yg rfl rfl (y_eqlT rfl rfl) ?_) | (refine Hd.yg rfl rfl (y_eql rfl rfl) ?_)
        refine Hd.yg rfl rfl (y_move rfl) ?_
        apply Hd.org 7 34 41 [(3, _), (4, _), (6, _), (28, _)] rfl ⟨rfl, rfl, rfl, rfl, trivial⟩
        · intro hg9_34
          try simp only [decide_eq_true_eq, decide_eq_false_iff_not, Bool.and_eq_true, Bool.or_eq_true, Bool.and_eq_false_iff, Bool.or_eq_false_iff, Bool.not_eq_true', Bool.not_eq_false', Bool.not_eq_true, Bool.not_eq_false, Int.not_lt, Int.not_le, Decidable.not_not, ne_eq] at hg9_34
          simp only [List.take]
          refine Hd.ng rfl rfl rfl ?_
          refine Hd.ng rfl rfl rfl ?_
          refine Hd.ng rfl rfl rfl ?_
          refine Hd.ng rfl rfl rfl ?_
          refine Hd.ng rfl rfl rfl ?_
          refine Hd.ng rfl rfl rfl ?_
          first | (refine Hd.yg rfl rfl (y_pickT rfl rfl) ?_) | (refine Hd.yg rfl rfl (y_pickF rfl rfl) ?_) | (refine Hd.yg rfl rfl (y_pickb rfl rfl rfl) ?_) | (refine Hd.yg rfl rfl (y_pick rfl rfl rfl) ?_)
          refine Hd.nil ?_
          exact Hd.mend (by repeat (first | exact trivial | refine ⟨rfl, ?_⟩)) (Ent.sep enn)
        · intro hg9_34
          try simp only [decide_eq_true_eq, decide_eq_false_iff_not, Bool.and_eq_true, Bool.or_eq_true, Bool.and_eq_false_iff, Bool.or_eq_false_iff, Bool.not_eq_true', Bool.not_eq_false', Bool.not_eq_true, Bool.not_eq_false, Int.not_lt, Int.not_le, Decidable.not_not, ne_eq] at hg9_34
          simp only [List.take]
          refine Hd.yg rfl rfl (y_move rfl) ?_
          refine Hd.yg rfl rfl (y_move rfl) ?_
          refine Hd.yg rfl rfl (y_nilp rfl) ?_
          first | (refine Hd.yg rfl rfl (y_field' (q := 5) (ft := 3) Try.underlying91 rfl sz3 rfl rfl) ?_) | (refine Hd.yg rfl rfl (y_fieldR (q := 5) (ft := 3) Try.underlying91 rfl sz3 rfl rfl) ?_)
          first | (refine Hd.yg rfl rfl (y_load1 ag3 rfl (Rd.pt1 pkk (by (first | rfl)))) ?_) | (refine Hd.yg rfl rfl (y_load1 ag3 rfl (Rd.seg1 pkk (by (first | rfl)))) ?_) | (refine Hd.yg rfl rfl (y_load1 ag3 rfl (Rd.segK1 pkk (by decide) (by (first | rfl)))) ?_) | (refine Hd.yg rfl rfl (y_loadR1 ag3 rfl (by (first | exact RdS.own pkk)) (by (first | rfl))) ?_)
          refine Hd.yg rfl rfl (y_lss rfl rfl) ?_
          first | (refine Hd.yg rfl rfl (y_pickT rfl rfl) ?_) | (refine Hd.yg rfl rfl (y_pickF rfl rfl) ?_) | (refine Hd.yg rfl rfl (y_pickb rfl rfl rfl) ?_) | (refine Hd.yg rfl rfl (y_pick rfl rfl rfl) ?_)
          refine Hd.nil ?_
          exact Hd.mend (by repeat (first | exact trivial | refine ⟨rfl, ?_⟩)) (Ent.sep enn)
        simp only [List.drop]
        first | (refine Hd.yv (y_pickT rfl rfl) ?_) | (refine Hd.yv (y_pickF rfl rfl) ?_) | (refine Hd.yv (y_pickb rfl rfl rfl) ?_) | (refine Hd.yv (y_pick rfl rfl rfl) ?_)
        refine Hd.nil ?_
        exact Hd.mend (by repeat (first | exact trivial | refine ⟨rfl, ?_⟩)) (Ent.sep enn)
      · intro hg9_28
        try simp only [decide_eq_true_eq, decide_eq_false_iff_not, Bool.and_eq_true, Bool.or_eq_true, Bool.and_eq_false_iff, Bool.or_eq_false_iff, Bool.not_eq_true', Bool.not_eq_false', Bool.not_eq_true, Bool.not_eq_false, Int.not_lt, Int.not_le, Decidable.not_not, ne_eq] at hg9_28
        simp only [List.take]
        refine Hd.ng rfl rfl rfl ?_
        refine Hd.ng rfl rfl rfl ?_
        refine Hd.ng rfl rfl rfl ?_
        refine Hd.ng rfl rfl rfl ?_
        refine Hd.ng rfl rfl rfl ?_
        refine Hd.ng rfl rfl rfl ?_
        refine Hd.ng rfl rfl rfl ?_
        refine Hd.ng rfl rfl rfl ?_
        refine Hd.ng rfl rfl rfl ?_
        refine Hd.ng rfl rfl rfl ?_
        refine Hd.ng rfl rfl rfl ?_
        refine Hd.ng rfl rfl rfl ?_
        refine Hd.ng rfl rfl rfl ?_
        first | (refine Hd.yv (y_pickT rfl rfl) ?_) | (refine Hd.yv (y_pickF rfl rfl) ?_) | (refine Hd.yv (y_pickb rfl rfl rfl) ?_) | (refine Hd.yv (y_pick rfl rfl rfl) ?_)
        refine Hd.nil ?_
        exact Hd.mend (by repeat (first | exact trivial | refine ⟨rfl, ?_⟩)) (Ent.sep enn)
      simp only [List.drop]
      refine Hd.yv (y_assign rfl) ?_
      refine Hd.nil ?_
      refine Hd.heap (BufP b wb x :: _) (fun q s => buf_backK hc q (by exact Ent.sep enn q s)) ?_
      refine Hd.slots [(3, _), (4, _), (6, _), (25, _)] ⟨rfl, rfl, rfl, rfl, trivial⟩ ?_
      refine Hd.toK hK11 ?_
      refine Hd.cond rfl (fun hc2 => ?_) (fun hc2 => ?_)
      ·
        try simp only [decide_eq_true_eq, decide_eq_false_iff_not, Bool.and_eq_true, Bool.or_eq_true, Bool.and_eq_false_iff, Bool.or_eq_false_iff, Bool.not_eq_true', Bool.not_eq_false', Bool.not_eq_true, Bool.not_eq_false, Int.not_lt, Int.not_le, Decidable.not_not, ne_eq] at hc2
        refine Hd.skip ?_
        refine Hd.toK hK10 ?_
        refine Hd.cond rfl (fun hc3 => ?_) (fun hc3 => ?_)
        ·
          try simp only [decide_eq_true_eq, decide_eq_false_iff_not, Bool.and_eq_true, Bool.or_eq_true, Bool.and_eq_false_iff, Bool.or_eq_false_iff, Bool.not_eq_true', Bool.not_eq_false', Bool.not_eq_true, Bool.not_eq_false, Int.not_lt, Int.not_le, Decidable.not_not, ne_eq] at hc3
          refine Hd.drawsH ([pt b3 [.int .i64 (waM x pre)] 3]) (fun j => !([4].contains j)) mixed ?_
          simp only [List.length, Nat.zero_add, Nat.reduceAdd]
          first | (refine Hd.takeH 0 rfl (by kernel_rfl) (by kernel_rfl) (by kernel_rfl) (by kernel_rfl) (y_load1 ag3 rfl (Rd.pt1 pkk (by (first | rfl)))) (fun _ _ => rfl) (Ent.sep enn) ?_) | (refine Hd.takeH 0 rfl (by kernel_rfl) (by kernel_rfl) (by kernel_rfl) (by kernel_rfl) (y_load1 ag3 rfl (Rd.seg1 pkk (by (first | rfl)))) (fun _ _ => rfl) (Ent.sep enn) ?_) | (refine Hd.takeH 0 rfl (by kernel_rfl) (by kernel_rfl) (by kernel_rfl) (by kernel_rfl) (y_load1 ag3 rfl (Rd.segK1 pkk (by decide) (by (first | rfl)))) (fun _ _ => rfl) (Ent.sep enn) ?_) | (refine Hd.takeH 0 rfl (by kernel_rfl) (by kernel_rfl) (by kernel_rfl) (by kernel_rfl) (y_loadR1 ag3 rfl (by (first | exact RdS.own pkk)) (by (first | rfl))) (fun _ _ => rfl) (Ent.sep enn) ?_)
          refine Hd.takeH 1 rfl (by kernel_rfl) (by kernel_rfl) (by kernel_rfl) (by kernel_rfl) (y_move rfl) (fun _ _ => rfl) (Ent.sep enn) ?_
          refine Hd.onlyH 2 rfl (by kernel_rfl) ?_
          refine Hd.callE rfl fk45 (flag_ct _ c) (Ent.sep enn) ?_
          intro _
          refine Hd.nil ?_
          refine Hd.thenN ?_
          refine Hd.heldK (J := (fun j => !([4].contains j))) (i := 2) (Ent.sep enn) ?_
          refine Hd.takeH 3 rfl (by kernel_rfl) (by kernel_rfl) (by kernel_rfl) (by kernel_rfl) (y_or rfl rfl) (fun _ _ => rfl) (Ent.sep enn) ?_
          refine Hd.onlyH 4 rfl (by kernel_rfl) ?_
          first | (refine Hd.store1 sz3 rfl rfl rfl pkk (by first | decide | (simp; done) | (simp; omega)) ?_) | (refine Hd.storeG1 sz3 rfl rfl rfl pkk (by first | decide | (simp; done) | (simp; omega)) ?_) | (refine Hd.storeO1 sz3 rfl rfl rfl pkk (by first | omega | (simp; done) | (simp; omega)) ?_) | (refine Hd.storeK1 sz3 rfl rfl rfl pkk (by decide) (by first | decide | (simp; done) | (simp; omega)) ?_)
          try simp only [List.set_cons_zero, List.set_cons_succ]
          refine Hd.nil ?_
          refine Hd.thenN ?_
          refine Hd.heldN (J := (fun j => !([4].contains j))) (i := 4) rfl ?_
          refine Hd.endH (by kernel_rfl) ?_
          refine Hd.slots [(3, _)] ⟨rfl, trivial⟩ ?_
          refine Hd.inB ?_
          refine Hd.inB ?_
          clear hK1 hK2 hK3 hK4 hK5 hK6 hK7 hK8 hK9 hK10 hK11
          refine Hd.reN ?_
          simp only [List.cons_append, List.nil_append]
          rw [hsn, if_pos (by unfold wantK; simp only [Bool.or_eq_true, Bool.and_eq_true, decide_eq_true_eq, Bool.not_eq_true']; exact ⟨hc1, by omega⟩)]
          exact (Ent.sep enn)
        ·
          try simp only [decide_eq_true_eq, decide_eq_false_iff_not, Bool.and_eq_true, Bool.or_eq_true, Bool.and_eq_false_iff, Bool.or_eq_false_iff, Bool.not_eq_true', Bool.not_eq_false', Bool.not_eq_true, Bool.not_eq_false, Int.not_lt, Int.not_le, Decidable.not_not, ne_eq] at hc3
          refine Hd.skip ?_
          refine Hd.inB ?_
          refine Hd.inB ?_
          clear hK1 hK2 hK3 hK4 hK5 hK6 hK7 hK8 hK9 hK10 hK11
          refine Hd.reN ?_
          simp only [List.cons_append, List.nil_append]
          rw [hsn, if_neg (by unfold wantK; simp only [Bool.or_eq_true, Bool.and_eq_true, decide_eq_true_eq, Bool.not_eq_true']; intro h; omega)]
          exact (Ent.sep enn)
      ·
        try simp only [decide_eq_true_eq, decide_eq_false_iff_not, Bool.and_eq_true, Bool.or_eq_true, Bool.and_eq_false_iff, Bool.or_eq_false_iff, Bool.not_eq_true', Bool.not_eq_false', Bool.not_eq_true, Bool.not_eq_false, Int.not_lt, Int.not_le, Decidable.not_not, ne_eq] at hc2
        refine Hd.region ?_
        refine Hd.yv (y_move rfl) ?_
        first | (refine Hd.yv (y_eqlT rfl rfl) ?_) | (refine Hd.yv (y_eql rfl rfl) ?_)
        refine Hd.yv (y_move rfl) ?_
        apply Hd.andg 3 45 48 [(3, _), (4, _)] rfl ⟨rfl, rfl, trivial⟩
        · intro hg10_45
          try simp only [decide_eq_true_eq, decide_eq_false_iff_not, Bool.and_eq_true, Bool.or_eq_true, Bool.and_eq_false_iff, Bool.or_eq_false_iff, Bool.not_eq_true', Bool.not_eq_false', Bool.not_eq_true, Bool.not_eq_false, Int.not_lt, Int.not_le, Decidable.not_not, ne_eq] at hg10_45
          simp only [List.take]
          refine Hd.yg rfl rfl (y_move rfl) ?_
          refine Hd.yg rfl rfl (y_gtr rfl rfl) ?_
          first | (refine Hd.yv (y_pickT rfl rfl) ?_) | (refine Hd.yv (y_pickF rfl rfl) ?_) | (refine Hd.yv (y_pickb rfl rfl rfl) ?_) | (refine Hd.yv (y_pick rfl rfl rfl) ?_)
          refine Hd.nil ?_
          exact Hd.mend (by repeat (first | exact trivial | refine ⟨rfl, ?_⟩)) (Ent.sep enn)
        · intro hg10_45
          try simp only [decide_eq_true_eq, decide_eq_false_iff_not, Bool.and_eq_true, Bool.or_eq_true, Bool.and_eq_false_iff, Bool.or_eq_false_iff, Bool.not_eq_true', Bool.not_eq_false', Bool.not_eq_true, Bool.not_eq_false, Int.not_lt, Int.not_le, Decidable.not_not, ne_eq] at hg10_45
          simp only [List.take]
          refine Hd.ng rfl rfl rfl ?_
          refine Hd.ng rfl rfl rfl ?_
          first | (refine Hd.yv (y_pickT rfl rfl) ?_) | (refine Hd.yv (y_pickF rfl rfl) ?_) | (refine Hd.yv (y_pickb rfl rfl rfl) ?_) | (refine Hd.yv (y_pick rfl rfl rfl) ?_)
          refine Hd.nil ?_
          exact Hd.mend (by repeat (first | exact trivial | refine ⟨rfl, ?_⟩)) (Ent.sep enn)
        simp only [List.drop]
        refine Hd.yv (y_assign rfl) ?_
        refine Hd.nil ?_
        refine Hd.slots [(3, _), (4, _), (25, _)] ⟨rfl, rfl, rfl, trivial⟩ ?_
        refine Hd.toK hK10 ?_
        refine Hd.cond rfl (fun hc3 => ?_) (fun hc3 => ?_)
        ·
          try simp only [decide_eq_true_eq, decide_eq_false_iff_not, Bool.and_eq_true, Bool.or_eq_true, Bool.and_eq_false_iff, Bool.or_eq_false_iff, Bool.not_eq_true', Bool.not_eq_false', Bool.not_eq_true, Bool.not_eq_false, Int.not_lt, Int.not_le, Decidable.not_not, ne_eq] at hc3
          refine Hd.drawsH ([pt b3 [.int .i64 (waM x pre)] 3]) (fun j => !([4].contains j)) mixed ?_
          simp only [List.length, Nat.zero_add, Nat.reduceAdd]
          first | (refine Hd.takeH 0 rfl (by kernel_rfl) (by kernel_rfl) (by kernel_rfl) (by kernel_rfl) (y_load1 ag3 rfl (Rd.pt1 pkk (by (first | rfl)))) (fun _ _ => rfl) (Ent.sep enn) ?_) | (refine Hd.takeH 0 rfl (by kernel_rfl) (by kernel_rfl) (by kernel_rfl) (by kernel_rfl) (y_load1 ag3 rfl (Rd.seg1 pkk (by (first | rfl)))) (fun _ _ => rfl) (Ent.sep enn) ?_) | (refine Hd.takeH 0 rfl (by kernel_rfl) (by kernel_rfl) (by kernel_rfl) (by kernel_rfl) (y_load1 ag3 rfl (Rd.segK1 pkk (by decide) (by (first | rfl)))) (fun _ _ => rfl) (Ent.sep enn) ?_) | (refine Hd.takeH 0 rfl (by kernel_rfl) (by kernel_rfl) (by kernel_rfl) (by kernel_rfl) (y_loadR1 ag3 rfl (by (first | exact RdS.own pkk)) (by (first | rfl))) (fun _ _ => rfl) (Ent.sep enn) ?_)
          refine Hd.takeH 1 rfl (by kernel_rfl) (by kernel_rfl) (by kernel_rfl) (by kernel_rfl) (y_move rfl) (fun _ _ => rfl) (Ent.sep enn) ?_
          refine Hd.onlyH 2 rfl (by kernel_rfl) ?_
          refine Hd.callE rfl fk45 (flag_ct _ c) (Ent.sep enn) ?_
          intro _
          refine Hd.nil ?_
          refine Hd.thenN ?_
          refine Hd.heldK (J := (fun j => !([4].contains j))) (i := 2) (Ent.sep enn) ?_
          refine Hd.takeH 3 rfl (by kernel_rfl) (by kernel_rfl) (by kernel_rfl) (by kernel_rfl) (y_or rfl rfl) (fun _ _ => rfl) (Ent.sep enn) ?_
          refine Hd.onlyH 4 rfl (by kernel_rfl) ?_
          first | (refine Hd.store1 sz3 rfl rfl rfl pkk (by first | decide | (simp; done) | (simp; omega)) ?_) | (refine Hd.storeG1 sz3 rfl rfl rfl pkk (by first | decide | (simp; done) | (simp; omega)) ?_) | (refine Hd.storeO1 sz3 rfl rfl rfl pkk (by first | omega | (simp; done) | (simp; omega)) ?_) | (refine Hd.storeK1 sz3 rfl rfl rfl pkk (by decide) (by first | decide | (simp; done) | (simp; omega)) ?_)
          try simp only [List.set_cons_zero, List.set_cons_succ]
          refine Hd.nil ?_
          refine Hd.thenN ?_
          refine Hd.heldN (J := (fun j => !([4].contains j))) (i := 4) rfl ?_
          refine Hd.endH (by kernel_rfl) ?_
          refine Hd.slots [(3, _)] ⟨rfl, trivial⟩ ?_
          refine Hd.inB ?_
          refine Hd.inB ?_
          clear hK1 hK2 hK3 hK4 hK5 hK6 hK7 hK8 hK9 hK10 hK11
          refine Hd.reN ?_
          simp only [List.cons_append, List.nil_append]
          rw [hsn, if_pos (by unfold wantK; simp only [Bool.or_eq_true, Bool.and_eq_true, decide_eq_true_eq, Bool.not_eq_true']; exact ⟨hc1, by omega⟩)]
          exact (Ent.sep enn)
        ·
          try simp only [decide_eq_true_eq, decide_eq_false_iff_not, Bool.and_eq_true, Bool.or_eq_true, Bool.and_eq_false_iff, Bool.or_eq_false_iff, Bool.not_eq_true', Bool.not_eq_false', Bool.not_eq_true, Bool.not_eq_false, Int.not_lt, Int.not_le, Decidable.not_not, ne_eq] at hc3
          refine Hd.skip ?_
          refine Hd.inB ?_
          refine Hd.inB ?_
          clear hK1 hK2 hK3 hK4 hK5 hK6 hK7 hK8 hK9 hK10 hK11
          refine Hd.reN ?_
          simp only [List.cons_append, List.nil_append]
          rw [hsn, if_neg (by unfold wantK; simp only [Bool.or_eq_true, Bool.and_eq_true, decide_eq_true_eq, Bool.not_eq_true']; intro h; omega)]
          exact (Ent.sep enn)
  ·
    intro r0 ys hys
    obtain rfl : ys = sidesA (onM x (sidesA 6)) := hys
    try simp only [List.cons_append, List.nil_append]
    refine Hd.inB ?_
    refine Hd.toK hK5 ?_
    refine Hd.seq (fun K12 hK12 => ?_)
    refine Hd.region ?_
    first | (refine Hd.yv (y_load1 ag3 rfl (Rd.pt1 pkk (by (first | rfl)))) ?_) | (refine Hd.yv (y_load1 ag3 rfl (Rd.seg1 pkk (by (first | rfl)))) ?_) | (refine Hd.yv (y_load1 ag3 rfl (Rd.segK1 pkk (by decide) (by (first | rfl)))) ?_) | (refine Hd.yv (y_loadR1 ag3 rfl (by (first | exact RdS.own pkk)) (by (first | rfl))) ?_)
    refine Hd.yv (y_assign rfl) ?_
    refine Hd.nil ?_
    refine Hd.slots [(2, _)] ⟨rfl, trivial⟩ ?_
    refine Hd.toK hK12 ?_
    refine Hd.ret ?_
    clear hK1 hK2 hK3 hK4 hK5 hK6 hK12
    exact Hd.retM (fun a fr => Lv.mark pkk (Lv.end1 fr rfl () rfl (Ent.sep enn)))
  ·
    rintro r0_0 (_ | id0) pre0 hG0
    ·
      exact Hd.absurd (by first | exact id | simp)
    ·
      exact Hd.absurd (by first | exact id | simp)
structure ToA where
  r : Bool
  w : Bool
  ev : Int
  e : Int
  i : Int
  o : Int
abbrev encT (t : ToA) : List Value := [.bool t.r, .bool t.w, .int .i64 t.ev, .int .i64 t.e, .int .i64 t.i, .int .i64 t.o]
def noT : ToA := ⟨false, false, 0, 0, 0, 0⟩
abbrev ToP (bt : Nat) (t : ToA) : SP := pt bt (encT t) 49
abbrev stopF (s : SdA) : SdA := { s with on := false, ended := true, at_ := NV }
def stopE (t : ToA) (e : Int) : Int := if t.e = 0 then e else t.e
abbrev stopT (t : ToA) (ev e : Int) : ToA := { t with ev := bits .or .i64 t.ev ev, e := stopE t e }
set_option maxHeartbeats 2000000 in
theorem stop_ct (L : List SP) (b k bt : Nat) (s : SdA) (t : ToA) (ev e : Int) : Ct Try.prog 62 #[.pointer (some ⟨b, 2 + k * 8, none⟩), .pointer (some ⟨bt, 0, none⟩), .int .i64 ev, .int .i64 e] (SdL b k s (ToP bt t :: L)) (fun _ : Unit => .tuple #[]) (fun _ : Unit => SdL b k (stopF s) (ToP bt (stopT t ev e) :: L)) := by
  refine Ct.of (vs := [.pointer (some ⟨b, 2 + k * 8, none⟩), .pointer (some ⟨bt, 0, none⟩), .int .i64 ev, .int .i64 e]) Try.func62 rfl rfl [(0, .pointer (some ⟨b, 2 + k * 8, none⟩)), (1, .pointer (some ⟨bt, 0, none⟩)), (2, .int .i64 ev), (3, .int .i64 e)] (by repeat (first | exact trivial | refine ⟨rfl, ?_⟩)) ?_
  intro E
  show Hd E 34 _ _ _ _
  refine Hd.seq (fun K1 hK1 => ?_)
  refine Hd.region ?_
  refine Hd.yv (y_move rfl) ?_
  refine Hd.yv (y_move rfl) ?_
  refine Hd.yv (y_move rfl) ?_
  refine Hd.yv (y_nilp rfl) ?_
  first | (refine Hd.yv (y_field' (q := 2) (ft := 4) Try.underlying91 rfl sz4 rfl rfl) ?_) | (refine Hd.yv (y_fieldR (q := 2) (ft := 4) Try.underlying91 rfl sz4 rfl rfl) ?_)
  first | (refine Hd.store1 sz4 rfl rfl rfl pkk (by first | decide | (simp; done) | (simp; omega)) ?_) | (refine Hd.storeG1 sz4 rfl rfl rfl pkk (by first | decide | (simp; done) | (simp; omega)) ?_) | (refine Hd.storeO1 sz4 rfl rfl rfl pkk (by first | omega | (simp; done) | (simp; omega)) ?_) | (refine Hd.storeK1 sz4 rfl rfl rfl pkk (by decide) (by first | decide | (simp; done) | (simp; omega)) ?_)
  try simp only [List.set_cons_zero, List.set_cons_succ]
  refine Hd.yv (y_nilp rfl) ?_
  first | (refine Hd.yv (y_field' (q := 3) (ft := 4) Try.underlying91 rfl sz4 rfl rfl) ?_) | (refine Hd.yv (y_fieldR (q := 3) (ft := 4) Try.underlying91 rfl sz4 rfl rfl) ?_)
  first | (refine Hd.store1 sz4 rfl rfl rfl pkk (by first | decide | (simp; done) | (simp; omega)) ?_) | (refine Hd.storeG1 sz4 rfl rfl rfl pkk (by first | decide | (simp; done) | (simp; omega)) ?_) | (refine Hd.storeO1 sz4 rfl rfl rfl pkk (by first | omega | (simp; done) | (simp; omega)) ?_) | (refine Hd.storeK1 sz4 rfl rfl rfl pkk (by decide) (by first | decide | (simp; done) | (simp; omega)) ?_)
  try simp only [List.set_cons_zero, List.set_cons_succ]
  refine Hd.yv (y_nilp rfl) ?_
  first | (refine Hd.yv (y_field' (q := 7) (ft := 35) Try.underlying91 rfl sz35 rfl rfl) ?_) | (refine Hd.yv (y_fieldR (q := 7) (ft := 35) Try.underlying91 rfl sz35 rfl rfl) ?_)
  first | (refine Hd.store1 sz35 rfl rfl rfl pkk (by first | decide | (simp; done) | (simp; omega)) ?_) | (refine Hd.storeG1 sz35 rfl rfl rfl pkk (by first | decide | (simp; done) | (simp; omega)) ?_) | (refine Hd.storeO1 sz35 rfl rfl rfl pkk (by first | omega | (simp; done) | (simp; omega)) ?_) | (refine Hd.storeK1 sz35 rfl rfl rfl pkk (by decide) (by first | decide | (simp; done) | (simp; omega)) ?_)
  try simp only [List.set_cons_zero, List.set_cons_succ]
  refine Hd.nil ?_
  refine Hd.slots [(1, _), (2, _), (3, _)] ⟨rfl, rfl, rfl, trivial⟩ ?_
  refine Hd.toK hK1 ?_
  refine Hd.seq (fun K2 hK2 => ?_)
  refine Hd.region ?_
  refine Hd.yv (y_move rfl) ?_
  refine Hd.yv (y_nilp rfl) ?_
  first | (refine Hd.yv (y_field' (q := 2) (ft := 3) Try.underlying49 rfl sz3 rfl rfl) ?_) | (refine Hd.yv (y_fieldR (q := 2) (ft := 3) Try.underlying49 rfl sz3 rfl rfl) ?_)
  first | (refine Hd.yv (y_load1 ag3 rfl (Rd.pt1 pkk (by (first | rfl)))) ?_) | (refine Hd.yv (y_load1 ag3 rfl (Rd.seg1 pkk (by (first | rfl)))) ?_) | (refine Hd.yv (y_load1 ag3 rfl (Rd.segK1 pkk (by decide) (by (first | rfl)))) ?_) | (refine Hd.yv (y_loadR1 ag3 rfl (by (first | exact RdS.own pkk)) (by (first | rfl))) ?_)
  refine Hd.yv (y_move rfl) ?_
  refine Hd.yv (y_or rfl rfl) ?_
  refine Hd.yv (y_nilp rfl) ?_
  first | (refine Hd.yv (y_field' (q := 2) (ft := 3) Try.underlying49 rfl sz3 rfl rfl) ?_) | (refine Hd.yv (y_fieldR (q := 2) (ft := 3) Try.underlying49 rfl sz3 rfl rfl) ?_)
  first | (refine Hd.store1 sz3 rfl rfl rfl pkk (by first | decide | (simp; done) | (simp; omega)) ?_) | (refine Hd.storeG1 sz3 rfl rfl rfl pkk (by first | decide | (simp; done) | (simp; omega)) ?_) | (refine Hd.storeO1 sz3 rfl rfl rfl pkk (by first | omega | (simp; done) | (simp; omega)) ?_) | (refine Hd.storeK1 sz3 rfl rfl rfl pkk (by decide) (by first | decide | (simp; done) | (simp; omega)) ?_)
  try simp only [List.set_cons_zero, List.set_cons_succ]
  refine Hd.nil ?_
  refine Hd.slots [(1, _), (3, _)] ⟨rfl, rfl, trivial⟩ ?_
  refine Hd.toK hK2 ?_
  refine Hd.seq (fun K3 hK3 => ?_)
  refine Hd.region ?_
  refine Hd.yv (y_move rfl) ?_
  refine Hd.yv (y_nilp rfl) ?_
  first | (refine Hd.yv (y_field' (q := 3) (ft := 27) Try.underlying49 rfl sz27 rfl rfl) ?_) | (refine Hd.yv (y_fieldR (q := 3) (ft := 27) Try.underlying49 rfl sz27 rfl rfl) ?_)
  first | (refine Hd.yv (y_load1 ag27 rfl (Rd.pt1 pkk (by (first | rfl)))) ?_) | (refine Hd.yv (y_load1 ag27 rfl (Rd.seg1 pkk (by (first | rfl)))) ?_) | (refine Hd.yv (y_load1 ag27 rfl (Rd.segK1 pkk (by decide) (by (first | rfl)))) ?_) | (refine Hd.yv (y_loadR1 ag27 rfl (by (first | exact RdS.own pkk)) (by (first | rfl))) ?_)
  first | (refine Hd.yv (y_eqlT rfl rfl) ?_) | (refine Hd.yv (y_eql rfl rfl) ?_)
  refine Hd.nil ?_
  refine Hd.slots [(1, _), (3, _), (29, _)] ⟨rfl, rfl, rfl, trivial⟩ ?_
  refine Hd.toK hK3 ?_
  refine Hd.cond rfl (fun hc0 => ?_) (fun hc0 => ?_)
  ·
    try simp only [decide_eq_true_eq, decide_eq_false_iff_not, Bool.and_eq_true, Bool.or_eq_true, Bool.and_eq_false_iff, Bool.or_eq_false_iff, Bool.not_eq_true', Bool.not_eq_false', Bool.not_eq_true, Bool.not_eq_false, Int.not_lt, Int.not_le, Decidable.not_not, ne_eq] at hc0
    refine Hd.region ?_
    refine Hd.yv (y_move rfl) ?_
    refine Hd.yv (y_move rfl) ?_
    refine Hd.yv (y_nilp rfl) ?_
    first | (refine Hd.yv (y_field' (q := 3) (ft := 27) Try.underlying49 rfl sz27 rfl rfl) ?_) | (refine Hd.yv (y_fieldR (q := 3) (ft := 27) Try.underlying49 rfl sz27 rfl rfl) ?_)
    first | (refine Hd.store1 sz27 rfl rfl rfl pkk (by first | decide | (simp; done) | (simp; omega)) ?_) | (refine Hd.storeG1 sz27 rfl rfl rfl pkk (by first | decide | (simp; done) | (simp; omega)) ?_) | (refine Hd.storeO1 sz27 rfl rfl rfl pkk (by first | omega | (simp; done) | (simp; omega)) ?_) | (refine Hd.storeK1 sz27 rfl rfl rfl pkk (by decide) (by first | decide | (simp; done) | (simp; omega)) ?_)
    try simp only [List.set_cons_zero, List.set_cons_succ]
    refine Hd.nil ?_
    refine Hd.slots [] trivial ?_
    clear hK1 hK2 hK3
    have h : stopE t e = e := by unfold stopE; rw [if_pos hc0]
    have hq : [Value.bool t.r, .bool t.w, .int .i64 (bits .or .i64 t.ev ev), .int .i64 (e), .int .i64 t.i, .int .i64 t.o] = encT (stopT t ev e) := by
      show _ = [Value.bool t.r, .bool t.w, .int .i64 (bits .or .i64 t.ev ev), .int .i64 (stopE t e), .int .i64 t.i, .int .i64 t.o]
      rw [h]
    exact Hd.end0 rfl () rfl (Ent.sep (.pick pkk (.eq pkk (segK_eq (by rfl)) (.eq pkk (pt_eq hq) enn))))
  ·
    try simp only [decide_eq_true_eq, decide_eq_false_iff_not, Bool.and_eq_true, Bool.or_eq_true, Bool.and_eq_false_iff, Bool.or_eq_false_iff, Bool.not_eq_true', Bool.not_eq_false', Bool.not_eq_true, Bool.not_eq_false, Int.not_lt, Int.not_le, Decidable.not_not, ne_eq] at hc0
    refine Hd.skip ?_
    clear hK1 hK2 hK3
    have h : stopE t e = t.e := by unfold stopE; rw [if_neg hc0]
    have hq : [Value.bool t.r, .bool t.w, .int .i64 (bits .or .i64 t.ev ev), .int .i64 (t.e), .int .i64 t.i, .int .i64 t.o] = encT (stopT t ev e) := by
      show _ = [Value.bool t.r, .bool t.w, .int .i64 (bits .or .i64 t.ev ev), .int .i64 (stopE t e), .int .i64 t.i, .int .i64 t.o]
      rw [h]
    exact Hd.end0 rfl () rfl (Ent.sep (.pick pkk (.eq pkk (segK_eq (by rfl)) (.eq pkk (pt_eq hq) enn))))
end Bu
end Go.Proofs.Ytmpemhbfgbochaa
