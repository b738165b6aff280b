/-
  Buffered events: set, New, Lens, Deadline, Read, Write, Timeouts.
-/
import Derived.Test.YtmpemhbfgbochaaBu1
namespace Go.Proofs.Ytmpemhbfgbochaa
set_option linter.unusedSimpArgs false
set_option linter.unusedVariables false
set_option linter.unnecessarySimpa false
open Go.RX Fx
namespace Bu
open Wo
set_option maxRecDepth 8000
abbrev NV : Int := 18446744073709551615
def dl (now after : Int) : Int := if 18446744073709551615 - now < after then 18446744073709551615 else now + after
set_option maxHeartbeats 2000000 in
theorem dl_ct (L : List SP) (now after : Int) (hn : InK .u64 now) (ha : InK .u64 after) : Ct Try.prog 59 #[.int .u64 now, .int .u64 after] (L) (fun _ : Unit => .int .u64 (dl now after)) (fun _ : Unit => L) := by
  refine Ct.of (vs := [.int .u64 now, .int .u64 after]) Try.func59 rfl rfl [(0, .int .u64 now), (1, .int .u64 after)] (by repeat (first | exact trivial | refine ⟨rfl, ?_⟩)) ?_
  intro E
  show Hd E 12 _ _ _ _
  simp only [InK] at hn ha
  refine Hd.seq (fun K1 hK1 => ?_)
  refine Hd.region ?_
  refine Hd.yv (y_assign rfl) ?_
  refine Hd.nil ?_
  refine Hd.slots [(0, _), (1, _)] ⟨rfl, rfl, trivial⟩ ?_
  refine Hd.toK hK1 ?_
  refine Hd.seq (fun K2 hK2 => ?_)
  refine Hd.seq (fun K3 hK3 => ?_)
  refine Hd.region ?_
  refine Hd.yv (y_move rfl) ?_
  refine Hd.yv (y_move rfl) ?_
  first | (refine Hd.yv (y_subn rfl rfl (by simp only [InK]; omega)) ?_) | (refine Hd.yv (y_sub rfl rfl) ?_)
  refine Hd.yv (y_gtr rfl rfl) ?_
  refine Hd.nil ?_
  refine Hd.slots [(0, _), (1, _), (8, _)] ⟨rfl, rfl, rfl, trivial⟩ ?_
  refine Hd.toK hK3 ?_
  refine Hd.cond rfl (fun hc0 => ?_) (fun hc0 => ?_)
  ·
    try simp only [decide_eq_true_eq, decide_eq_false_iff_not, Bool.and_eq_true, Bool.or_eq_true, Bool.and_eq_false_iff, Bool.or_eq_false_iff, Bool.not_eq_true', Bool.not_eq_false', Bool.not_eq_true, Bool.not_eq_false, Int.not_lt, Int.not_le, Decidable.not_not, ne_eq] at hc0
    refine Hd.seq (fun K4 hK4 => ?_)
    refine Hd.region ?_
    refine Hd.yv (y_assign rfl) ?_
    refine Hd.nil ?_
    refine Hd.slots [(4, _)] ⟨rfl, trivial⟩ ?_
    refine Hd.toK hK4 ?_
    refine Hd.ret ?_
    refine Hd.thenRet ?_
    clear hK1 hK2 hK3 hK4
    exact Hd.ret1 rfl () (by unfold dl; rw [if_pos (by omega)]; rfl) (Ent.sep enn)
  ·
    try simp only [decide_eq_true_eq, decide_eq_false_iff_not, Bool.and_eq_true, Bool.or_eq_true, Bool.and_eq_false_iff, Bool.or_eq_false_iff, Bool.not_eq_true', Bool.not_eq_false', Bool.not_eq_true, Bool.not_eq_false, Int.not_lt, Int.not_le, Decidable.not_not, ne_eq] at hc0
    refine Hd.skip ?_
    refine Hd.toK hK2 ?_
    refine Hd.seq (fun K5 hK5 => ?_)
    refine Hd.region ?_
    refine Hd.yv (y_move rfl) ?_
    refine Hd.yv (y_move rfl) ?_
    first | (refine Hd.yv (y_addn rfl rfl (by simp only [InK]; omega)) ?_) | (refine Hd.yv (y_add rfl rfl) ?_)
    refine Hd.yv (y_assign rfl) ?_
    refine Hd.nil ?_
    refine Hd.slots [(4, _)] ⟨rfl, trivial⟩ ?_
    refine Hd.toK hK5 ?_
    refine Hd.ret ?_
    clear hK1 hK2 hK3 hK5
    exact Hd.ret1 rfl () (by unfold dl; rw [if_neg (by omega)]; rfl) (Ent.sep enn)
def BfA.up (x : BfA) (k : Nat) (f : SdA → SdA) : BfA := { x with s := fun j => if j = k then f (x.s j) else x.s j }
theorem bup_at (x : BfA) (k : Nat) (f : SdA → SdA) : (x.up k f).s k = f (x.s k) := if_pos rfl
theorem bup_ne (x : BfA) {k j : Nat} (f : SdA → SdA) (h : j ≠ k) : (x.up k f).s j = x.s j := if_neg h
def atV (s : SdA) (k : Nat) (now : Int) : Int := if ((s.on && decide (s.after ≠ 0)) && (decide ((k : Int) = 0) || decide ((s.c.length : Int) > 0))) = true then dl now s.after else NV
abbrev setA (k : Nat) (now : Int) (s : SdA) : SdA := { s with at_ := atV s k now }
/-- with its side k ahead, the other one beside -/
abbrev SdR (b k : Nat) (s : SdA) : List SP := [ChB b (2 + k * 8 + 0) s.c, segK b (2 + k * 8) 2 (encS s)]
set_option maxHeartbeats 2000000 in
theorem set_ct (L : List SP) (b k : Nat) (hk : k < 2) (s : SdA) (now : Int) (hn : InK .u64 now) (ha : InK .u64 s.after) : Ct Try.prog 39 #[.pointer (some ⟨b, 0, none⟩), .int .i64 (k : Int), .int .u64 now] (SdL b k s L) (fun _ : Unit => .tuple #[]) (fun _ : Unit => SdL b k (setA k now s) L) := by
  refine Ct.of (vs := [.pointer (some ⟨b, 0, none⟩), .int .i64 (k : Int), .int .u64 now]) Try.func39 rfl rfl [(0, .pointer (some ⟨b, 0, none⟩)), (1, .int .i64 (k : Int)), (2, .int .u64 now)] (by repeat (first | exact trivial | refine ⟨rfl, ?_⟩)) ?_
  intro E
  show Hd E 46 _ _ _ _
  refine Hd.seq (fun K1 hK1 => ?_)
  refine Hd.region ?_
  refine Hd.yv (y_move rfl) ?_
  refine Hd.yv (y_move rfl) ?_
  refine Hd.yv (y_nilp rfl) ?_
  first | (refine Hd.yv (y_field' (q := 2) (ft := 92) Try.underlying94 rfl sz92 rfl rfl) ?_) | (refine Hd.yv (y_fieldR (q := 2) (ft := 92) Try.underlying94 rfl sz92 rfl rfl) ?_)
  refine Hd.yv (y_idxA Try.underlying92 sz91 rfl rfl (by first | omega | decide)) ?_
  refine Hd.yv (y_assign rfl) ?_
  refine Hd.nil ?_
  refine Hd.slots [(1, _), (2, _), (6, _)] ⟨rfl, rfl, rfl, trivial⟩ ?_
  refine Hd.toK hK1 ?_
  refine Hd.seq (fun K2 hK2 => ?_)
  refine Hd.region ?_
  refine Hd.yv (y_move rfl) ?_
  refine Hd.yv (y_nilp rfl) ?_
  first | (refine Hd.yv (y_field' (q := 7) (ft := 35) Try.underlying91 rfl sz35 rfl rfl) ?_) | (refine Hd.yv (y_fieldR (q := 7) (ft := 35) Try.underlying91 rfl sz35 rfl rfl) ?_)
  first | (refine Hd.store1 sz35 rfl rfl rfl pkk (by first | decide | (simp; done) | (simp; omega)) ?_) | (refine Hd.storeG1 sz35 rfl rfl rfl pkk (by first | decide | (simp; done) | (simp; omega)) ?_) | (refine Hd.storeO1 sz35 rfl rfl rfl pkk (by first | omega | (simp; done) | (simp; omega)) ?_) | (refine Hd.storeK1 sz35 rfl rfl rfl pkk (by decide) (by first | decide | (simp; done) | (simp; omega)) ?_)
  try simp only [List.set_cons_zero, List.set_cons_succ]
  refine Hd.nil ?_
  refine Hd.slots [(1, _), (2, _), (6, _)] ⟨rfl, rfl, rfl, trivial⟩ ?_
  refine Hd.toK hK2 ?_
  refine Hd.seq (fun K3 hK3 => ?_)
  refine Hd.region ?_
  refine Hd.yv (y_move rfl) ?_
  refine Hd.yv (y_nilp rfl) ?_
  first | (refine Hd.yv (y_field' (q := 2) (ft := 4) Try.underlying91 rfl sz4 rfl rfl) ?_) | (refine Hd.yv (y_fieldR (q := 2) (ft := 4) Try.underlying91 rfl sz4 rfl rfl) ?_)
  first | (refine Hd.yv (y_load1 ag4 rfl (Rd.pt1 pkk (by (first | rfl)))) ?_) | (refine Hd.yv (y_load1 ag4 rfl (Rd.seg1 pkk (by (first | rfl)))) ?_) | (refine Hd.yv (y_load1 ag4 rfl (Rd.segK1 pkk (by decide) (by (first | rfl)))) ?_) | (refine Hd.yv (y_loadR1 ag4 rfl (by (first | exact RdS.own pkk)) (by (first | rfl))) ?_)
  refine Hd.yv (y_move rfl) ?_
  apply Hd.andg 6 19 25 [(1, _), (2, _), (6, _)] rfl ⟨rfl, rfl, rfl, trivial⟩
  · intro hg2_19
    try simp only [decide_eq_true_eq, decide_eq_false_iff_not, Bool.and_eq_true, Bool.or_eq_true, Bool.and_eq_false_iff, Bool.or_eq_false_iff, Bool.not_eq_true', Bool.not_eq_false', Bool.not_eq_true, Bool.not_eq_false, Int.not_lt, Int.not_le, Decidable.not_not, ne_eq] at hg2_19
    simp only [List.take]
    refine Hd.yg rfl rfl (y_move rfl) ?_
    refine Hd.yg rfl rfl (y_nilp rfl) ?_
    first | (refine Hd.yg rfl rfl (y_field' (q := 6) (ft := 35) Try.underlying91 rfl sz35 rfl rfl) ?_) | (refine Hd.yg rfl rfl (y_fieldR (q := 6) (ft := 35) Try.underlying91 rfl sz35 rfl rfl) ?_)
    first | (refine Hd.yg rfl rfl (y_load1 ag35 rfl (Rd.pt1 pkk (by (first | rfl)))) ?_) | (refine Hd.yg rfl rfl (y_load1 ag35 rfl (Rd.seg1 pkk (by (first | rfl)))) ?_) | (refine Hd.yg rfl rfl (y_load1 ag35 rfl (Rd.segK1 pkk (by decide) (by (first | rfl)))) ?_) | (refine Hd.yg rfl rfl (y_loadR1 ag35 rfl (by (first | exact RdS.own pkk)) (by (first | rfl))) ?_)
    refine Hd.yg rfl rfl (y_neq rfl rfl) ?_
    first | (refine Hd.yv (y_pickT rfl rfl) ?_) | (refine Hd.yv (y_pickF rfl rfl) ?_) | (refine Hd.yv (y_pickb rfl rfl rfl) ?_) | (refine Hd.yv (y_pick rfl rfl rfl) ?_)
    refine Hd.nil ?_
    exact Hd.mend (by repeat (first | exact trivial | refine ⟨rfl, ?_⟩)) (Ent.sep enn)
  · intro hg2_19
    try simp only [decide_eq_true_eq, decide_eq_false_iff_not, Bool.and_eq_true, Bool.or_eq_true, Bool.and_eq_false_iff, Bool.or_eq_false_iff, Bool.not_eq_true', Bool.not_eq_false', Bool.not_eq_true, Bool.not_eq_false, Int.not_lt, Int.not_le, Decidable.not_not, ne_eq] at hg2_19
    simp only [List.take]
    refine Hd.ng rfl rfl rfl ?_
    refine Hd.ng rfl rfl rfl ?_
    refine Hd.ng rfl rfl rfl ?_
    refine Hd.ng rfl rfl rfl ?_
    refine Hd.ng rfl rfl rfl ?_
    first | (refine Hd.yv (y_pickT rfl rfl) ?_) | (refine Hd.yv (y_pickF rfl rfl) ?_) | (refine Hd.yv (y_pickb rfl rfl rfl) ?_) | (refine Hd.yv (y_pick rfl rfl rfl) ?_)
    refine Hd.nil ?_
    exact Hd.mend (by repeat (first | exact trivial | refine ⟨rfl, ?_⟩)) (Ent.sep enn)
  simp only [List.drop]
  refine Hd.yv (y_move rfl) ?_
  apply Hd.andg (q := (decide ((k : Int) = 0) || decide ((s.c.length : Int) > 0))) 10 26 36 [(2, _), (6, _)] rfl ⟨rfl, rfl, trivial⟩
  · intro hg2_26
    try simp only [decide_eq_true_eq, decide_eq_false_iff_not, Bool.and_eq_true, Bool.or_eq_true, Bool.and_eq_false_iff, Bool.or_eq_false_iff, Bool.not_eq_true', Bool.not_eq_false', Bool.not_eq_true, Bool.not_eq_false, Int.not_lt, Int.not_le, Decidable.not_not, ne_eq] at hg2_26
    simp only [List.take]
    refine Hd.yg rfl rfl (y_move rfl) ?_
    first | (refine Hd.yg rfl rfl (y_eqlT rfl rfl) ?_) | (refine Hd.yg rfl rfl (y_eql rfl rfl) ?_)
    refine Hd.yg rfl rfl (y_move rfl) ?_
    apply Hd.org 6 29 35 [(2, _), (6, _), (26, _)] rfl ⟨rfl, rfl, rfl, trivial⟩
    · intro hg2_29
      try simp only [decide_eq_true_eq, decide_eq_false_iff_not, Bool.and_eq_true, Bool.or_eq_true, Bool.and_eq_false_iff, Bool.or_eq_false_iff, Bool.not_eq_true', Bool.not_eq_false', Bool.not_eq_true, Bool.not_eq_false, Int.not_lt, Int.not_le, Decidable.not_not, ne_eq] at hg2_29
      simp only [List.take]
      refine Hd.ng rfl rfl rfl ?_
      refine Hd.ng rfl rfl rfl ?_
      refine Hd.ng rfl rfl rfl ?_
      refine Hd.ng rfl rfl rfl ?_
      refine Hd.ng rfl rfl rfl ?_
      first | (refine Hd.yg rfl rfl (y_pickT rfl rfl) ?_) | (refine Hd.yg rfl rfl (y_pickF rfl rfl) ?_) | (refine Hd.yg rfl rfl (y_pickb rfl rfl rfl) ?_) | (refine Hd.yg rfl rfl (y_pick rfl rfl rfl) ?_)
      refine Hd.nil ?_
      exact Hd.mend (by repeat (first | exact trivial | refine ⟨rfl, ?_⟩)) (Ent.sep enn)
    · intro hg2_29
      try simp only [decide_eq_true_eq, decide_eq_false_iff_not, Bool.and_eq_true, Bool.or_eq_true, Bool.and_eq_false_iff, Bool.or_eq_false_iff, Bool.not_eq_true', Bool.not_eq_false', Bool.not_eq_true, Bool.not_eq_false, Int.not_lt, Int.not_le, Decidable.not_not, ne_eq] at hg2_29
      simp only [List.take]
      refine Hd.yg rfl rfl (y_move rfl) ?_
      refine Hd.yg rfl rfl (y_nilp rfl) ?_
      first | (refine Hd.yg rfl rfl (y_field' (q := 0) (ft := 89) Try.underlying91 rfl sz89 rfl rfl) ?_) | (refine Hd.yg rfl rfl (y_fieldR (q := 0) (ft := 89) Try.underlying91 rfl sz89 rfl rfl) ?_)
      refine Hd.unguard rfl rfl ?_
      refine Hd.callE rfl fk41 (chLen _ b (2 + k * 8 + 0) s.c) (Ent.sep enn) ?_
      intro _
      refine Hd.yg rfl rfl (y_gtr rfl rfl) ?_
      first | (refine Hd.yg rfl rfl (y_pickT rfl rfl) ?_) | (refine Hd.yg rfl rfl (y_pickF rfl rfl) ?_) | (refine Hd.yg rfl rfl (y_pickb rfl rfl rfl) ?_) | (refine Hd.yg rfl rfl (y_pick rfl rfl rfl) ?_)
      refine Hd.nil ?_
      exact Hd.mend (by repeat (first | exact trivial | refine ⟨rfl, ?_⟩)) (Ent.sep enn)
    simp only [List.drop]
    first | (refine Hd.yv (y_pickT rfl rfl) ?_) | (refine Hd.yv (y_pickF rfl rfl) ?_) | (refine Hd.yv (y_pickb rfl rfl rfl) ?_) | (refine Hd.yv (y_pick rfl rfl rfl) ?_)
    refine Hd.nil ?_
    exact Hd.mend (by repeat (first | exact trivial | refine ⟨rfl, ?_⟩)) (Ent.sep enn)
  · intro hg2_26
    try simp only [decide_eq_true_eq, decide_eq_false_iff_not, Bool.and_eq_true, Bool.or_eq_true, Bool.and_eq_false_iff, Bool.or_eq_false_iff, Bool.not_eq_true', Bool.not_eq_false', Bool.not_eq_true, Bool.not_eq_false, Int.not_lt, Int.not_le, Decidable.not_not, ne_eq] at hg2_26
    simp only [List.take]
    refine Hd.ng rfl rfl rfl ?_
    refine Hd.ng rfl rfl rfl ?_
    refine Hd.ng rfl rfl rfl ?_
    refine Hd.ng rfl rfl rfl ?_
    refine Hd.ng rfl rfl rfl ?_
    refine Hd.ng rfl rfl rfl ?_
    refine Hd.ng rfl rfl rfl ?_
    refine Hd.ng rfl rfl rfl ?_
    refine Hd.ng rfl rfl rfl ?_
    first | (refine Hd.yv (y_pickT rfl rfl) ?_) | (refine Hd.yv (y_pickF rfl rfl) ?_) | (refine Hd.yv (y_pickb rfl rfl rfl) ?_) | (refine Hd.yv (y_pick rfl rfl rfl) ?_)
    refine Hd.nil ?_
    exact Hd.mend (by repeat (first | exact trivial | refine ⟨rfl, ?_⟩)) (Ent.sep enn)
  simp only [List.drop]
  refine Hd.nil ?_
  refine Hd.slots [(2, _), (6, _), (36, _)] ⟨rfl, rfl, rfl, trivial⟩ ?_
  refine Hd.toK hK3 ?_
  refine Hd.cond rfl (fun hc0 => ?_) (fun hc0 => ?_)
  ·
    try simp only [decide_eq_true_eq, decide_eq_false_iff_not, Bool.and_eq_true, Bool.or_eq_true, Bool.and_eq_false_iff, Bool.or_eq_false_iff, Bool.not_eq_true', Bool.not_eq_false', Bool.not_eq_true, Bool.not_eq_false, Int.not_lt, Int.not_le, Decidable.not_not, ne_eq] at hc0
    refine Hd.region ?_
    refine Hd.yv (y_move rfl) ?_
    refine Hd.yv (y_move rfl) ?_
    refine Hd.yv (y_move rfl) ?_
    refine Hd.yv (y_nilp rfl) ?_
    first | (refine Hd.yv (y_field' (q := 6) (ft := 35) Try.underlying91 rfl sz35 rfl rfl) ?_) | (refine Hd.yv (y_fieldR (q := 6) (ft := 35) Try.underlying91 rfl sz35 rfl rfl) ?_)
    first | (refine Hd.yv (y_load1 ag35 rfl (Rd.pt1 pkk (by (first | rfl)))) ?_) | (refine Hd.yv (y_load1 ag35 rfl (Rd.seg1 pkk (by (first | rfl)))) ?_) | (refine Hd.yv (y_load1 ag35 rfl (Rd.segK1 pkk (by decide) (by (first | rfl)))) ?_) | (refine Hd.yv (y_loadR1 ag35 rfl (by (first | exact RdS.own pkk)) (by (first | rfl))) ?_)
    refine Hd.callE rfl fk59 (dl_ct _ now s.after hn ha) (Ent.sep enn) ?_
    intro _
    refine Hd.yv (y_nilp rfl) ?_
    first | (refine Hd.yv (y_field' (q := 7) (ft := 35) Try.underlying91 rfl sz35 rfl rfl) ?_) | (refine Hd.yv (y_fieldR (q := 7) (ft := 35) Try.underlying91 rfl sz35 rfl rfl) ?_)
    first | (refine Hd.store1 sz35 rfl rfl rfl pkk (by first | decide | (simp; done) | (simp; omega)) ?_) | (refine Hd.storeG1 sz35 rfl rfl rfl pkk (by first | decide | (simp; done) | (simp; omega)) ?_) | (refine Hd.storeO1 sz35 rfl rfl rfl pkk (by first | omega | (simp; done) | (simp; omega)) ?_) | (refine Hd.storeK1 sz35 rfl rfl rfl pkk (by decide) (by first | decide | (simp; done) | (simp; omega)) ?_)
    try simp only [List.set_cons_zero, List.set_cons_succ]
    refine Hd.nil ?_
    refine Hd.slots [] trivial ?_
    clear hK1 hK2 hK3
    have hv : atV s k now = dl now s.after := by unfold atV; rw [if_pos (by simpa [Bool.and_eq_true, Bool.or_eq_true] using hc0)]
    exact Hd.end0 rfl () rfl (Ent.sep (.pick pkk (.eq pkk (segK_eq (show [Value.bool s.on, .bool s.ended, .int .i64 s.low, .int .i64 s.high, .int .u64 s.after, .int .u64 (dl now s.after)] = encS (setA k now s) by rw [← hv])) enn)))
  ·
    try simp only [decide_eq_true_eq, decide_eq_false_iff_not, Bool.and_eq_true, Bool.or_eq_true, Bool.and_eq_false_iff, Bool.or_eq_false_iff, Bool.not_eq_true', Bool.not_eq_false', Bool.not_eq_true, Bool.not_eq_false, Int.not_lt, Int.not_le, Decidable.not_not, ne_eq] at hc0
    refine Hd.skip ?_
    clear hK1 hK2 hK3
    have hv : atV s k now = NV := by
      unfold atV; rw [if_neg]
      intro h
      simp only [Bool.and_eq_true, Bool.or_eq_true, decide_eq_true_eq] at h
      obtain ⟨⟨h1, h2⟩, h3⟩ := h
      rcases hc0 with (h | h) | h
      · rw [h1] at h; cases h
      · exact h2 h
      · omega
    exact Hd.end0 rfl () rfl (Ent.sep (.pick pkk (.eq pkk (segK_eq (show [Value.bool s.on, .bool s.ended, .int .i64 s.low, .int .i64 s.high, .int .u64 s.after, .int .u64 18446744073709551615] = encS (setA k now s) by show _ = [Value.bool s.on, .bool s.ended, .int .i64 s.low, .int .i64 s.high, .int .u64 s.after, Value.int .u64 (atV s k now)]; rw [hv])) enn)))
def s0 (on : Bool) : SdA := ⟨[], on, false, 0, 0, 0, NV⟩
def newB (fd : Int) : BfA := ⟨fun k => s0 (decide (k = 1)), fd⟩
theorem mkSd_sep {b o : Nat} {on : Bool} {vs : List Value} {L : List SP} {k : PH} (s : sep (seg b o ([.slice none 0 0, .int .i64 0] ++ (encS (s0 on) ++ vs)) :: L) k) :
    sep (ChB b (o + 0) [] :: segK b o 2 (encS (s0 on)) :: seg b (o + 8) vs :: L) k := by
  have s2 : sep (seg b o [.slice none 0 0, .int .i64 0] :: seg b (o + 2) (encS (s0 on) ++ vs) :: L) k := seg_split s
  have s3 : sep (seg b o [.slice none 0 0, .int .i64 0] :: seg b (o + 2) (encS (s0 on)) :: seg b (o + 8) vs :: L) k := Ent.imp' .here (fun _ x => x) (fun _ s => seg_split (us := encS (s0 on)) s) s2
  have s5 := Bc.rows_nil s3
  exact Ent.sep (.ex [] (.pure ⟨⟨fun r h => (by cases h), by decide⟩, rfl⟩ (.ex (none, 0) (.pick (.there .here) (.ownNil (.pick .here (.eq .here rfl .same))))))) k s5
theorem Hd.mkBuf {E : World} {n : Nat} {ds : List Deferred} {st : List (Nat × Value)} {L L' : List SP} {K : Act → World → Prop} {b wb : Nat} {fd : Int}
    (p : Pick L (pt b ([.pointer (some ⟨wb, 0, none⟩), .int .i64 fd] ++ ([.slice none 0 0, .int .i64 0] ++ (encS (s0 false) ++ ([.slice none 0 0, .int .i64 0] ++ (encS (s0 true) ++ []))))) 94) L') (h : Hd E n ds st (BufP b wb (newB fd) :: L') K) : Hd E n ds st L K := by
  refine Hd.heap _ (fun k s => ?_) h
  have s1 : sep (seg b 0 [.pointer (some ⟨wb, 0, none⟩), .int .i64 fd] :: seg b 2 ([.slice none 0 0, .int .i64 0] ++ (encS (s0 false) ++ ([.slice none 0 0, .int .i64 0] ++ (encS (s0 true) ++ [])))) :: kd b 18 94 :: L') k := seg_split (pt_open (p.sep s))
  have s2 : sep (seg b 0 [.pointer (some ⟨wb, 0, none⟩), .int .i64 fd] :: ChB b (2 + 0) [] :: segK b 2 2 (encS (s0 false)) :: seg b (2 + 8) ([.slice none 0 0, .int .i64 0] ++ (encS (s0 true) ++ [])) :: kd b 18 94 :: L') k := Ent.imp' .here (fun _ x => x) (fun _ s => mkSd_sep s) s1
  have s3 : sep (seg b 0 [.pointer (some ⟨wb, 0, none⟩), .int .i64 fd] :: ChB b (2 + 0) [] :: segK b 2 2 (encS (s0 false)) :: ChB b (10 + 0) [] :: segK b 10 2 (encS (s0 true)) :: seg b (10 + 8) [] :: kd b 18 94 :: L') k :=
    Ent.imp' .here (fun _ x => x) (fun _ s => Ent.imp' .here (fun _ x => x) (fun _ s => Ent.imp' .here (fun _ x => x) (fun _ s => mkSd_sep s) s) s) s2
  exact Ent.sep (.ex () (.pick (.there (.there (.there (.there (.there (.there .here)))))) (.pick .here (.eq .here rfl (.eq .here rfl (.eq .here rfl (.eq .here rfl (.skip .same)))))))) k s3
set_option maxHeartbeats 2000000 in
theorem bnew_ct (L : List SP) (wb : Nat) (w : WA) (fd : Int) (h : (readyR w fd).op = true) : Ct Try.prog 12 #[.pointer (some ⟨wb, 0, none⟩), .int .i64 fd] (WorldP wb w :: L) (fun b : Nat => .tuple #[.pointer (some ⟨b, 0, none⟩), .int .i64 0]) (fun b : Nat => BufP b wb (newB fd) :: WorldP wb w :: L) := by
  refine Ct.of (vs := [.pointer (some ⟨wb, 0, none⟩), .int .i64 fd]) Try.func12 rfl rfl [(0, .pointer (some ⟨wb, 0, none⟩)), (1, .int .i64 fd)] (by repeat (first | exact trivial | refine ⟨rfl, ?_⟩)) ?_
  intro E
  show Hd E 36 _ _ _ _
  refine Hd.seq (fun K1 hK1 => ?_)
  refine Hd.region ?_
  refine Hd.yv (y_assign rfl) ?_
  refine Hd.yv (y_assign rfl) ?_
  refine Hd.nil ?_
  refine Hd.slots [(0, _), (1, _)] ⟨rfl, rfl, trivial⟩ ?_
  refine Hd.toK hK1 ?_
  refine Hd.seq (fun K2 hK2 => ?_)
  refine Hd.block ?_
  refine Hd.seq (fun K3 hK3 => ?_)
  refine Hd.region ?_
  refine Hd.yv (y_move rfl) ?_
  first | (refine Hd.yv (y_eql_pointer Try.underlying25 rfl rfl) ?_) | (refine Hd.yv (y_eql_one Try.underlying25 sz78 rfl rfl rfl) ?_)
  refine Hd.yv (y_assign rfl) ?_
  refine Hd.nil ?_
  refine Hd.slots [(0, _), (1, _), (7, _)] ⟨rfl, rfl, rfl, trivial⟩ ?_
  refine Hd.toK hK3 ?_
  refine Hd.condF rfl ?_
  refine Hd.seq (fun K4 hK4 => ?_)
  refine Hd.region ?_
  refine Hd.yv (y_move rfl) ?_
  refine Hd.yv (y_move rfl) ?_
  refine Hd.callE rfl fk35 (wready_ct _ wb w fd) (Ent.sep enn) ?_
  intro _
  refine Hd.yv (y_to (v' := .bool true) (y_fieldv1 (q := 0) (ft := 4) (cs := encR (readyR w fd)) Try.underlying85 rfl ag4 rfl rfl) (by rw [h])) ?_
  refine Hd.yv (y_not rfl) ?_
  refine Hd.yv (y_assign rfl) ?_
  refine Hd.nil ?_
  refine Hd.slots [(0, _), (1, _), (10, _)] ⟨rfl, rfl, rfl, trivial⟩ ?_
  refine Hd.toK hK4 ?_
  refine Hd.condF rfl ?_
  refine Hd.skip ?_
  refine Hd.inB ?_
  refine Hd.toK hK2 ?_
  refine Hd.seq (fun K5 hK5 => ?_)
  refine Hd.region ?_
  refine Hd.yv (y_move rfl) ?_
  refine Hd.yv (y_move rfl) ?_
  refine Hd.yv (y_build (vs := [(0, _), (1, _)]) rfl (by first | exact bd12_18 .. | kernel_rfl)) ?_
  refine Hd.box rfl rfl (fun b19 => ?_)
  refine Hd.yv (y_assign rfl) ?_
  refine Hd.nil ?_
  refine Hd.slots [(6, _)] ⟨rfl, trivial⟩ ?_
  refine Hd.toK hK5 ?_
  refine Hd.seq (fun K6 hK6 => ?_)
  refine Hd.drawsH ([]) (fun j => !(([1000] : List Nat).contains j)) mixed ?_
  simp only [List.length, Nat.zero_add, Nat.reduceAdd]
  refine Hd.takeH 0 rfl (by kernel_rfl) (by kernel_rfl) (by kernel_rfl) (by kernel_rfl) (y_move rfl) (fun _ _ => rfl) (Ent.sep enn) ?_
  refine Hd.takeH 1 rfl (by kernel_rfl) (by kernel_rfl) (by kernel_rfl) (by kernel_rfl) (y_move rfl) (fun _ _ => rfl) (Ent.sep enn) ?_
  refine Hd.takeH 2 rfl (by kernel_rfl) (by kernel_rfl) (by kernel_rfl) (by kernel_rfl) (y_nilp rfl) (fun _ _ => rfl) (Ent.sep enn) ?_
  first | (refine Hd.takeH 3 rfl (by kernel_rfl) (by kernel_rfl) (by kernel_rfl) (by kernel_rfl) (y_field' (q := 2) (ft := 92) Try.underlying94 rfl sz92 rfl rfl) (fun _ _ => rfl) (Ent.sep enn) ?_) | (refine Hd.takeH 3 rfl (by kernel_rfl) (by kernel_rfl) (by kernel_rfl) (by kernel_rfl) (y_fieldR (q := 2) (ft := 92) Try.underlying94 rfl sz92 rfl rfl) (fun _ _ => rfl) (Ent.sep enn) ?_)
  refine Hd.takeH 4 rfl (by kernel_rfl) (by kernel_rfl) (by kernel_rfl) (by kernel_rfl) (y_idxA Try.underlying92 sz91 rfl rfl (by first | omega | decide)) (fun _ _ => rfl) (Ent.sep enn) ?_
  first | (refine Hd.takeH 5 rfl (by kernel_rfl) (by kernel_rfl) (by kernel_rfl) (by kernel_rfl) (y_field' (q := 7) (ft := 35) Try.underlying91 rfl sz35 rfl rfl) (fun _ _ => rfl) (Ent.sep enn) ?_) | (refine Hd.takeH 5 rfl (by kernel_rfl) (by kernel_rfl) (by kernel_rfl) (by kernel_rfl) (y_fieldR (q := 7) (ft := 35) Try.underlying91 rfl sz35 rfl rfl) (fun _ _ => rfl) (Ent.sep enn) ?_)
  refine Hd.takeH 7 rfl (by kernel_rfl) (by kernel_rfl) (by kernel_rfl) (by kernel_rfl) (y_nilp rfl) (fun _ _ => rfl) (Ent.sep enn) ?_
  first | (refine Hd.takeH 8 rfl (by kernel_rfl) (by kernel_rfl) (by kernel_rfl) (by kernel_rfl) (y_field' (q := 2) (ft := 92) Try.underlying94 rfl sz92 rfl rfl) (fun _ _ => rfl) (Ent.sep enn) ?_) | (refine Hd.takeH 8 rfl (by kernel_rfl) (by kernel_rfl) (by kernel_rfl) (by kernel_rfl) (y_fieldR (q := 2) (ft := 92) Try.underlying94 rfl sz92 rfl rfl) (fun _ _ => rfl) (Ent.sep enn) ?_)
  refine Hd.onlyH 6 rfl (by kernel_rfl) ?_
  first | (refine Hd.store1 sz35 rfl rfl rfl pkk (by first | decide | (simp; done) | (simp; omega)) ?_) | (refine Hd.storeG1 sz35 rfl rfl rfl pkk (by first | decide | (simp; done) | (simp; omega)) ?_) | (refine Hd.storeO1 sz35 rfl rfl rfl pkk (by first | omega | (simp; done) | (simp; omega)) ?_)
  try simp only [List.set_cons_zero, List.set_cons_succ]
  refine Hd.nil ?_
  refine Hd.thenN ?_
  refine Hd.heldK (J := (fun j => !(([1000] : List Nat).contains j))) (i := 6) (Ent.sep enn) ?_
  refine Hd.takeH 9 rfl (by kernel_rfl) (by kernel_rfl) (by kernel_rfl) (by kernel_rfl) (y_idxA Try.underlying92 sz91 rfl rfl (by first | omega | decide)) (fun _ _ => rfl) (Ent.sep enn) ?_
  first | (refine Hd.takeH 10 rfl (by kernel_rfl) (by kernel_rfl) (by kernel_rfl) (by kernel_rfl) (y_field' (q := 7) (ft := 35) Try.underlying91 rfl sz35 rfl rfl) (fun _ _ => rfl) (Ent.sep enn) ?_) | (refine Hd.takeH 10 rfl (by kernel_rfl) (by kernel_rfl) (by kernel_rfl) (by kernel_rfl) (y_fieldR (q := 7) (ft := 35) Try.underlying91 rfl sz35 rfl rfl) (fun _ _ => rfl) (Ent.sep enn) ?_)
  refine Hd.onlyH 11 rfl (by kernel_rfl) ?_
  first | (refine Hd.store1 sz35 rfl rfl rfl pkk (by first | decide | (simp; done) | (simp; omega)) ?_) | (refine Hd.storeG1 sz35 rfl rfl rfl pkk (by first | decide | (simp; done) | (simp; omega)) ?_) | (refine Hd.storeO1 sz35 rfl rfl rfl pkk (by first | omega | (simp; done) | (simp; omega)) ?_)
  try simp only [List.set_cons_zero, List.set_cons_succ]
  refine Hd.nil ?_
  refine Hd.thenN ?_
  refine Hd.heldK (J := (fun j => !(([1000] : List Nat).contains j))) (i := 11) (Ent.sep enn) ?_
  refine Hd.endH (by kernel_rfl) ?_
  refine Hd.slots [(6, _)] ⟨rfl, trivial⟩ ?_
  refine Hd.toK hK6 ?_
  refine Hd.seq (fun K7 hK7 => ?_)
  refine Hd.region ?_
  refine Hd.yv (y_move rfl) ?_
  refine Hd.yv (y_nilp rfl) ?_
  first | (refine Hd.yv (y_field' (q := 2) (ft := 92) Try.underlying94 rfl sz92 rfl rfl) ?_) | (refine Hd.yv (y_fieldR (q := 2) (ft := 92) Try.underlying94 rfl sz92 rfl rfl) ?_)
  refine Hd.yv (y_idxA Try.underlying92 sz91 rfl rfl (by first | omega | decide)) ?_
  first | (refine Hd.yv (y_field' (q := 2) (ft := 4) Try.underlying91 rfl sz4 rfl rfl) ?_) | (refine Hd.yv (y_fieldR (q := 2) (ft := 4) Try.underlying91 rfl sz4 rfl rfl) ?_)
  first | (refine Hd.store1 sz4 rfl rfl rfl pkk (by first | decide | (simp; done) | (simp; omega)) ?_) | (refine Hd.storeG1 sz4 rfl rfl rfl pkk (by first | decide | (simp; done) | (simp; omega)) ?_) | (refine Hd.storeO1 sz4 rfl rfl rfl pkk (by first | omega | (simp; done) | (simp; omega)) ?_)
  try simp only [List.set_cons_zero, List.set_cons_succ]
  refine Hd.nil ?_
  refine Hd.slots [(6, _)] ⟨rfl, trivial⟩ ?_
  refine Hd.toK hK7 ?_
  refine Hd.seq (fun K8 hK8 => ?_)
  refine Hd.region ?_
  refine Hd.yv (y_move rfl) ?_
  refine Hd.yv (y_assign rfl) ?_
  refine Hd.yv (y_assign rfl) ?_
  refine Hd.nil ?_
  refine Hd.slots [(4, _), (5, _)] ⟨rfl, rfl, trivial⟩ ?_
  refine Hd.toK hK8 ?_
  refine Hd.ret ?_
  clear hK1 hK2 hK3 hK4 hK5 hK6 hK7 hK8
  refine Hd.mkBuf (b := b19) (wb := wb) (fd := fd) (by exact Pick.here) ?_
  exact Hd.ret2 rfl b19 rfl rfl rfl (Ent.sep enn)
end Bu
end Go.Proofs.Ytmpemhbfgbochaa
