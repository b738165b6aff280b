/-
  slices.Chunk's pieces; chains: what may come, Add and Ahead.
-/
import Derived.Test.YtmpemhbfgbochaaBc1
namespace Go.Proofs.Ytmpemhbfgbochaa
set_option linter.unusedSimpArgs false
set_option linter.unusedVariables false
set_option linter.unnecessarySimpa false
open Go.RX Fx
namespace Bc
def mayE (have_ more : Nat) : Int := if more ≤ 1048576 - have_ then 0 else 70
set_option maxHeartbeats 2000000 in
theorem may_ct (L : List SP) (b o : Nat) (v : Value) (k m : Nat) (hk : k ≤ 1048576) : Ct Try.prog 65 #[.pointer (some ⟨b, o, none⟩), .int .i64 (m : Int)] (seg b o [v, .int .i64 (k : Int)] :: L) (fun _ : Unit => .int .i64 (mayE k m)) (fun _ : Unit => seg b o [v, .int .i64 (k : Int)] :: L) := by
  refine Ct.of (vs := [.pointer (some ⟨b, o, none⟩), .int .i64 (m : Int)]) Try.func65 rfl rfl [(0, .pointer (some ⟨b, o, none⟩)), (1, .int .i64 (m : Int))] (by repeat (first | exact trivial | refine ⟨rfl, ?_⟩)) ?_
  intro E
  show Hd E 16 _ _ _ _
  refine Hd.seq (fun K1 hK1 => ?_)
  refine Hd.region ?_
  refine Hd.yv (y_assign rfl) ?_
  refine Hd.nil ?_
  refine Hd.slots [(0, _), (1, _)] ⟨rfl, rfl, trivial⟩ ?_
  refine Hd.toK hK1 ?_
  refine Hd.seq (fun K2 hK2 => ?_)
  refine Hd.block ?_
  refine Hd.seq (fun K3 hK3 => ?_)
  refine Hd.region ?_
  refine Hd.yv (y_move rfl) ?_
  first | (refine Hd.yv (y_eql_pointer Try.underlying126 rfl rfl) ?_) | (refine Hd.yv (y_eql_one Try.underlying126 sz89 rfl rfl rfl) ?_)
  refine Hd.yv (y_assign rfl) ?_
  refine Hd.nil ?_
  refine Hd.slots [(0, _), (1, _), (5, _)] ⟨rfl, rfl, rfl, trivial⟩ ?_
  refine Hd.toK hK3 ?_
  refine Hd.condF rfl ?_
  refine Hd.seq (fun K4 hK4 => ?_)
  refine Hd.region ?_
  refine Hd.yv (y_move rfl) ?_
  refine Hd.yv (y_move rfl) ?_
  refine Hd.yv (y_nilp rfl) ?_
  first | (refine Hd.yv (y_field' (q := 1) (ft := 3) Try.underlying89 rfl sz3 rfl rfl) ?_) | (refine Hd.yv (y_fieldR (q := 1) (ft := 3) Try.underlying89 rfl sz3 rfl rfl) ?_)
  first | (refine Hd.yv (y_load1 ag3 rfl (Rd.pt1 pkk (by (first | rfl)))) ?_) | (refine Hd.yv (y_load1 ag3 rfl (Rd.seg1 pkk (by (first | rfl)))) ?_) | (refine Hd.yv (y_loadR1 ag3 rfl (by (first | exact RdS.own pkk)) (by (first | rfl))) ?_)
  first | (refine Hd.yv (y_subn rfl rfl (by simp only [InK]; omega)) ?_) | (refine Hd.yv (y_sub rfl rfl) ?_)
  refine Hd.yv (y_gtr rfl rfl) ?_
  refine Hd.yv (y_assign rfl) ?_
  refine Hd.nil ?_
  refine Hd.slots [(8, _)] ⟨rfl, trivial⟩ ?_
  refine Hd.toK hK4 ?_
  refine Hd.cond rfl (fun hc1 => ?_) (fun hc1 => ?_)
  ·
    try simp only [decide_eq_true_eq, decide_eq_false_iff_not, Bool.and_eq_true, Bool.or_eq_true, Bool.and_eq_false_iff, Bool.or_eq_false_iff, Bool.not_eq_true', Bool.not_eq_false', Bool.not_eq_true, Bool.not_eq_false, Int.not_lt, Int.not_le, Decidable.not_not, ne_eq] at hc1
    refine Hd.seq (fun K5 hK5 => ?_)
    refine Hd.region ?_
    refine Hd.yv (y_assign rfl) ?_
    refine Hd.nil ?_
    refine Hd.slots [(4, _)] ⟨rfl, trivial⟩ ?_
    refine Hd.toK hK5 ?_
    refine Hd.ret ?_
    refine Hd.inBret ?_
    refine Hd.thenRet ?_
    clear hK1 hK2 hK3 hK4 hK5
    exact Hd.ret1 rfl () (by simp only [mayE]; rw [if_neg (by omega)]; rfl) (Ent.sep enn)
  ·
    try simp only [decide_eq_true_eq, decide_eq_false_iff_not, Bool.and_eq_true, Bool.or_eq_true, Bool.and_eq_false_iff, Bool.or_eq_false_iff, Bool.not_eq_true', Bool.not_eq_false', Bool.not_eq_true, Bool.not_eq_false, Int.not_lt, Int.not_le, Decidable.not_not, ne_eq] at hc1
    refine Hd.skip ?_
    refine Hd.inB ?_
    refine Hd.toK hK2 ?_
    refine Hd.seq (fun K6 hK6 => ?_)
    refine Hd.region ?_
    refine Hd.yv (y_assign rfl) ?_
    refine Hd.nil ?_
    refine Hd.slots [(4, _)] ⟨rfl, trivial⟩ ?_
    refine Hd.toK hK6 ?_
    refine Hd.ret ?_
    clear hK1 hK2 hK3 hK4 hK6
    exact Hd.ret1 rfl () (by simp only [mayE]; rw [if_pos (by omega)]; rfl) (Ent.sep enn)
theorem may_nil (L : List SP) (m : Int) : Ct Try.prog 65 #[.pointer none, .int .i64 m] L (fun _ : Unit => .int .i64 1) (fun _ => L) := by
  refine Ct.of (vs := [.pointer none, .int .i64 m]) Try.func65 rfl rfl [(0, .pointer none), (1, .int .i64 m)] ⟨rfl, rfl, trivial⟩ ?_
  intro E
  show Hd E 16 _ _ _ _
  refine Hd.seq (fun K1 hK1 => ?_)
  refine Hd.region ?_
  refine Hd.yv (y_assign rfl) ?_
  refine Hd.nil ?_
  refine Hd.slots [(0, _), (1, _)] ⟨rfl, rfl, trivial⟩ ?_
  refine Hd.toK hK1 ?_
  refine Hd.seq (fun K2 hK2 => ?_)
  refine Hd.block ?_
  refine Hd.seq (fun K3 hK3 => ?_)
  refine Hd.region ?_
  refine Hd.yv (y_move rfl) ?_
  first | (refine Hd.yv (y_eql_pointer Try.underlying126 rfl rfl) ?_) | (refine Hd.yv (y_eql_one Try.underlying126 sz89 rfl rfl rfl) ?_)
  refine Hd.yv (y_assign rfl) ?_
  refine Hd.nil ?_
  refine Hd.slots [(0, _), (1, _), (5, _)] ⟨rfl, rfl, rfl, trivial⟩ ?_
  refine Hd.toK hK3 ?_
  refine Hd.condT rfl ?_
  refine Hd.seq (fun K4 hK4 => ?_)
  refine Hd.region ?_
  refine Hd.yv (y_assign rfl) ?_
  refine Hd.nil ?_
  refine Hd.slots [(4, _)] ⟨rfl, trivial⟩ ?_
  refine Hd.toK hK4 ?_
  refine Hd.ret ?_
  refine Hd.inBret ?_
  refine Hd.thenRet ?_
  clear hK1 hK2 hK3 hK4
  exact Hd.ret1 rfl () (by first | rfl | (simp only [*]; done) | (simp [*]; done)) (Ent.sep enn)
/-- a slice's pieces of 256: where each begins, and how long it is -/
def pcs (m : Nat) : Nat → List (Nat × Nat)
  | 0 => []
  | k + 1 => pcs m k ++ [(k * 256, min 256 (m - k * 256))]
theorem pcs_len (m : Nat) : ∀ k, (pcs m k).length = k
  | 0 => rfl
  | k + 1 => by simp [pcs, pcs_len m k]
/-- as many as there are -/
def npc (m : Nat) : Nat := (m + 255) / 256
abbrev encP (ad : Option Addr) (c : Nat × Nat) : List Value := [.slice (cutA ad 1 c.1 (c.1 + c.2)) (c.1 + c.2 - c.1) (c.1 + c.2 - c.1)]
/-- some pieces, one at least -/
def SpP (m : Nat) (xs : List (Nat × Nat)) : Prop := ∃ k, xs = pcs m (k + 1) ∧ k * 256 < m
theorem spP_last {m : Nat} {pre : List (Nat × Nat)} {c : Nat × Nat} (h : SpP m (pre ++ [c])) : ∃ k, pre = pcs m k ∧ c = (k * 256, min 256 (m - k * 256)) ∧ k * 256 < m := by
  obtain ⟨k, e, hk⟩ := h
  simp only [pcs] at e
  have := List.append_inj' e rfl
  exact ⟨k, this.1, by simpa using this.2, hk⟩
set_option maxHeartbeats 2000000 in
theorem chunk_ct (L : List SP) (v : Value) (hv : v.cells = #[v]) : Ct Try.prog 66 #[v, .int .i64 256] (L) (fun i : Nat × Nat => .func (.func 76) #[] #[.pointer (some ⟨i.1, 0, none⟩), .pointer (some ⟨i.2, 0, none⟩)]) (fun i : Nat × Nat => pt i.1 [v] 39 :: pt i.2 [.int .i64 256] 3 :: L) := by
  refine Ct.of (vs := [v, .int .i64 256]) Try.func66 rfl rfl [(0, v), (1, .int .i64 256)] (by repeat (first | exact trivial | refine ⟨rfl, ?_⟩)) ?_
  intro E
  show Hd E 9 _ _ _ _
  refine Hd.seq (fun K1 hK1 => ?_)
  refine Hd.region ?_
  refine Hd.box (us := [v]) rfl hv (fun b2 => ?_)
  refine Hd.box rfl rfl (fun b3 => ?_)
  refine Hd.yv (y_assign rfl) ?_
  refine Hd.nil ?_
  refine Hd.slots [(2, _), (3, _)] ⟨rfl, rfl, trivial⟩ ?_
  refine Hd.toK hK1 ?_
  refine Hd.seq (fun K2 hK2 => ?_)
  refine Hd.seq (fun K3 hK3 => ?_)
  refine Hd.region ?_
  first | (refine Hd.yv (y_load1 ag3 rfl (Rd.pt1 pkk (by (first | rfl)))) ?_) | (refine Hd.yv (y_load1 ag3 rfl (Rd.seg1 pkk (by (first | rfl)))) ?_) | (refine Hd.yv (y_loadR1 ag3 rfl (by (first | exact RdS.own pkk)) (by (first | rfl))) ?_)
  refine Hd.yv (y_lss rfl rfl) ?_
  rw [decide_eq_false (show ¬((256 : Int) < 1) by omega)]
  refine Hd.nil ?_
  refine Hd.slots [(2, _), (3, _), (6, _)] ⟨rfl, rfl, rfl, trivial⟩ ?_
  refine Hd.toK hK3 ?_
  refine Hd.condF rfl ?_
  refine Hd.skip ?_
  refine Hd.toK hK2 ?_
  refine Hd.seq (fun K4 hK4 => ?_)
  refine Hd.region ?_
  refine Hd.yv (y_mkf (fv := []) (cv := [_, _]) rfl rfl) ?_
  refine Hd.yv (y_assign rfl) ?_
  refine Hd.nil ?_
  refine Hd.slots [(4, _)] ⟨rfl, trivial⟩ ?_
  refine Hd.toK hK4 ?_
  refine Hd.ret ?_
  clear hK1 hK2 hK3 hK4
  exact Hd.ret1 rfl (b2, b3) rfl (Ent.sep enn)
theorem chunk_it (L : List SP) (b2 b3 : Nat) (ad : Option Addr) (m cap : Nat) (hmc : m ≤ cap) (hm : m ≤ 70368744177664) : It Try.prog 76 [.pointer (some ⟨b2, 0, none⟩), .pointer (some ⟨b3, 0, none⟩)] (encP ad)
    (fun xs => xs = pcs m (npc m)) (SpP m)
    (pt b2 [.slice ad m cap] 39 :: pt b3 [.int .i64 256] 3 :: L) (pt b2 [.slice ad m cap] 39 :: pt b3 [.int .i64 256] 3 :: L) := by
  intro l J X hy
  refine Ct.of (vs := [.func (.yield l) #[] #[], .pointer (some ⟨b2, 0, none⟩), .pointer (some ⟨b3, 0, none⟩)]) Try.func76 rfl rfl [(0, .func (.yield l) #[] #[]), (1, .pointer (some ⟨b2, 0, none⟩)), (2, .pointer (some ⟨b3, 0, none⟩))] ⟨rfl, rfl, rfl, trivial⟩ ?_
  intro E
  show Hd E 31 _ _ _ _
  refine Hd.heap (pt b2 [.slice ad m cap] 39 :: pt b3 [.int .i64 256] 3 :: (J [] ++ L)) (fun k h => sep_two h) ?_
  refine Hd.seq (fun K1 hK1 => ?_)
  refine Hd.region ?_
  refine Hd.yv (y_assign rfl) ?_
  refine Hd.nil ?_
  refine Hd.slots [(0, _), (1, _), (2, _), (4, _)] ⟨rfl, rfl, rfl, rfl, trivial⟩ ?_
  refine Hd.toK hK1 ?_
  refine Hd.block ?_
  refine Hd.loopK (ι := Nat) [(0, _), (1, _), (2, _)] (fun k => [(4, .int .i64 ((k * 256 : Nat) : Int))]) (fun k => pu (k = 0 ∨ (k - 1) * 256 < m) :: pt b2 [.slice ad m cap] 39 :: pt b3 [.int .i64 256] 3 :: (J (pcs m k) ++ L)) (fun k => npc m - k) 0 (by repeat (first | exact trivial | refine ⟨rfl, ?_⟩)) (by repeat (first | exact trivial | refine ⟨rfl, ?_⟩)) (Ent.sep (.pure (by first | omega | (simp; done) | (simp; omega) | exact ⟨by simp, by simp⟩) enn)) ?_
  intro k
  try dsimp only
  refine Hd.pure (fun hp0 => ?_)
  try dsimp only at hp0
  refine Hd.seq (fun K2 hK2 => ?_)
  refine Hd.seq (fun K3 hK3 => ?_)
  refine Hd.region ?_
  refine Hd.yv (y_move rfl) ?_
  first | (refine Hd.yv (y_load1 ag39 rfl (Rd.pt1 pkk (by (first | rfl)))) ?_) | (refine Hd.yv (y_load1 ag39 rfl (Rd.seg1 pkk (by (first | rfl)))) ?_) | (refine Hd.yv (y_loadR1 ag39 rfl (by (first | exact RdS.own pkk)) (by (first | rfl))) ?_)
  refine Hd.yv (y_len Try.underlying39 rfl) ?_
  refine Hd.yv (y_lss rfl rfl) ?_
  refine Hd.nil ?_
  refine Hd.slots [(0, _), (1, _), (2, _), (4, _), (9, _)] ⟨rfl, rfl, rfl, rfl, rfl, trivial⟩ ?_
  refine Hd.toK hK3 ?_
  refine Hd.cond rfl (fun hc0 => ?_) (fun hc0 => ?_)
  ·
    try simp only [decide_eq_true_eq, decide_eq_false_iff_not, Bool.and_eq_true, Bool.or_eq_true, Bool.and_eq_false_iff, Bool.or_eq_false_iff, Bool.not_eq_true', Bool.not_eq_false', Bool.not_eq_true, Bool.not_eq_false, Int.not_lt, Int.not_le, Decidable.not_not, ne_eq] at hc0
    have hk : k * 256 < m := by omega
    refine Hd.skip ?_
    refine Hd.toK hK2 ?_
    refine Hd.seq (fun K4 hK4 => ?_)
    refine Hd.block ?_
    refine Hd.seq (fun K5 hK5 => ?_)
    refine Hd.quiet mixed (by kernel_rfl) ?_
    first | (refine Hq.yv (y_load1 ag3 rfl (Rd.pt1 pkk (by (first | rfl)))) ?_) | (refine Hq.yv (y_load1 ag3 rfl (Rd.seg1 pkk (by (first | rfl)))) ?_) | (refine Hq.yv (y_loadR1 ag3 rfl (by (first | exact RdS.own pkk)) (by (first | rfl))) ?_)
    first | (refine Hq.yv (y_load1 ag39 rfl (Rd.pt1 pkk (by (first | rfl)))) ?_) | (refine Hq.yv (y_load1 ag39 rfl (Rd.seg1 pkk (by (first | rfl)))) ?_) | (refine Hq.yv (y_loadR1 ag39 rfl (by (first | exact RdS.own pkk)) (by (first | rfl))) ?_)
    refine Hq.yv (y_move rfl) ?_
    first | (refine Hq.yv (y_slo_oxxN Try.underlying39 sz5 rfl rfl (by first | omega | (simp; done) | decide)) ?_) | (refine Hq.yv (y_slo_oxx Try.underlying39 sz5 rfl rfl (by first | omega | (simp; done) | decide) (by first | omega | (simp; done) | decide)) ?_)
    refine Hq.yv (y_len Try.underlying39 rfl) ?_
    refine Hq.yv (y_min rfl rfl) ?_
    refine Hq.yv (y_assign rfl) ?_
    refine Hq.nil ?_
    refine Hd.name (b := ((min 256 (m - k * 256) : Nat) : Int)) 5 rfl (by omega) ?_
    refine Hd.slots [(0, _), (1, _), (2, _), (4, _), (5, _)] ⟨rfl, rfl, rfl, rfl, rfl, trivial⟩ ?_
    refine Hd.toK hK5 ?_
    refine Hd.seq (fun K6 hK6 => ?_)
    refine Hd.region ?_
    refine Hd.yv (y_move rfl) ?_
    first | (refine Hd.yv (y_load1 ag39 rfl (Rd.pt1 pkk (by (first | rfl)))) ?_) | (refine Hd.yv (y_load1 ag39 rfl (Rd.seg1 pkk (by (first | rfl)))) ?_) | (refine Hd.yv (y_loadR1 ag39 rfl (by (first | exact RdS.own pkk)) (by (first | rfl))) ?_)
    refine Hd.yv (y_move rfl) ?_
    refine Hd.yv (y_move rfl) ?_
    refine Hd.yv (y_move rfl) ?_
    first | (refine Hd.yv (y_addn rfl rfl (by simp only [InK]; omega)) ?_) | (refine Hd.yv (y_add rfl rfl) ?_)
    refine Hd.yv (y_move rfl) ?_
    refine Hd.yv (y_move rfl) ?_
    first | (refine Hd.yv (y_addn rfl rfl (by simp only [InK]; omega)) ?_) | (refine Hd.yv (y_add rfl rfl) ?_)
    refine Hd.name (b := ((k * 256 + min 256 (m - k * 256) : Nat) : Int)) 24 rfl (by omega) ?_
    refine Hd.name (b := ((k * 256 + min 256 (m - k * 256) : Nat) : Int)) 27 rfl (by omega) ?_
    first | (refine Hd.yv (y_slo_oooN Try.underlying39 sz5 rfl rfl rfl rfl (by first | omega | (simp; done) | decide) (by first | omega | (simp; done) | decide) (by first | omega | (simp; done) | decide)) ?_) | (refine Hd.yv (y_slo_ooo Try.underlying39 sz5 rfl rfl rfl rfl (by first | omega | (simp; done) | decide) (by first | omega | (simp; done) | decide) (by first | omega | (simp; done) | decide) (by first | omega | (simp; done) | decide)) ?_)
    refine Hd.yield (pre := pcs m k) (c := (k * 256, min 256 (m - k * 256))) (M := pt b2 [.slice ad m cap] 39 :: pt b3 [.int .i64 256] 3 :: L) hy rfl rfl ⟨k, rfl, hk⟩ (fun k h => sep_two' h) ?_
    intro yb
    refine Hd.yv (y_not rfl) ?_
    refine Hd.nil ?_
    refine Hd.slots [(0, _), (1, _), (2, _), (4, _), (30, _)] ⟨rfl, rfl, rfl, rfl, rfl, trivial⟩ ?_
    refine Hd.toK hK6 ?_
    refine Hd.cond rfl (fun hc1 => ?_) (fun hc1 => ?_)
    ·
      try simp only [decide_eq_true_eq, decide_eq_false_iff_not, Bool.and_eq_true, Bool.or_eq_true, Bool.and_eq_false_iff, Bool.or_eq_false_iff, Bool.not_eq_true', Bool.not_eq_false', Bool.not_eq_true, Bool.not_eq_false, Int.not_lt, Int.not_le, Decidable.not_not, ne_eq] at hc1
      subst hc1
      simp only [cond_false]
      refine Hd.ret ?_
      refine Hd.inBret ?_
      refine Hd.thenRet ?_
      refine Hd.thenRet ?_
      refine Hd.inBret ?_
      clear hK1 hK2 hK3 hK4 hK5 hK6
      exact Hd.ret0 rfl (pcs m (k + 1), false) rfl (fun k' h => Ent.sep (.pure ⟨k, rfl, hk⟩ .same) k' h)
    ·
      try simp only [decide_eq_true_eq, decide_eq_false_iff_not, Bool.and_eq_true, Bool.or_eq_true, Bool.and_eq_false_iff, Bool.or_eq_false_iff, Bool.not_eq_true', Bool.not_eq_false', Bool.not_eq_true, Bool.not_eq_false, Int.not_lt, Int.not_le, Decidable.not_not, ne_eq] at hc1
      subst hc1
      simp only [cond_true]
      refine Hd.heap (pt b2 [.slice ad m cap] 39 :: pt b3 [.int .i64 256] 3 :: (J (pcs m (k + 1)) ++ L)) (fun k h => sep_two h) ?_
      refine Hd.skip ?_
      refine Hd.inB ?_
      refine Hd.toK hK4 ?_
      refine Hd.region ?_
      refine Hd.yv (y_move rfl) ?_
      first | (refine Hd.yv (y_load1 ag3 rfl (Rd.pt1 pkk (by (first | rfl)))) ?_) | (refine Hd.yv (y_load1 ag3 rfl (Rd.seg1 pkk (by (first | rfl)))) ?_) | (refine Hd.yv (y_loadR1 ag3 rfl (by (first | exact RdS.own pkk)) (by (first | rfl))) ?_)
      first | (refine Hd.yv (y_addn rfl rfl (by simp only [InK]; omega)) ?_) | (refine Hd.yv (y_add rfl rfl) ?_)
      refine Hd.yv (y_assign rfl) ?_
      refine Hd.nil ?_
      refine Hd.slots [(0, _), (1, _), (2, _), (4, _)] ⟨rfl, rfl, rfl, rfl, trivial⟩ ?_
      clear hK1 hK2 hK3 hK4 hK5 hK6
      refine Hd.thenN ?_
      refine Hd.name (b := (((k + 1) * 256 : Nat) : Int)) 4 rfl (by omega) ?_
      exact Hd.again (k + 1) (by simp only [npc]; omega) (by repeat (first | exact trivial | refine ⟨rfl, ?_⟩)) (fun k' h => Ent.sep (.pure (by omega) .same) k' h)
  ·
    try simp only [decide_eq_true_eq, decide_eq_false_iff_not, Bool.and_eq_true, Bool.or_eq_true, Bool.and_eq_false_iff, Bool.or_eq_false_iff, Bool.not_eq_true', Bool.not_eq_false', Bool.not_eq_true, Bool.not_eq_false, Int.not_lt, Int.not_le, Decidable.not_not, ne_eq] at hc0
    refine Hd.exit ?_
    refine Hd.thenExit ?_
    refine Hd.thenExit ?_
    refine Hd.inBexit ?_
    clear hK1 hK2 hK3
    have hk : k = npc m := by simp only [npc]; omega
    subst hk
    exact Hd.end0 rfl (pcs m (npc m), true) rfl (fun k' h => Ent.sep (.pure rfl .same) k' (sep_two' h))
end Bc
end Go.Proofs.Ytmpemhbfgbochaa
