/- Events and limits have their numbers; the examples of the chapter; what is refused, and of none: the law BufevNames answers true. No condition. -/
import Derived.Lib.SmallJoins
import Derived.Test.YtmpemhbfgbochaaZBufevNamesH
namespace Go.Proofs.Ytmpemhbfgbochaa
set_option linter.unusedSimpArgs false
set_option linter.unusedVariables false
set_option linter.unnecessarySimpa false
open Go.RX Fx
namespace Bu
open Wo
set_option maxRecDepth 8000
set_option maxHeartbeats 2000000 in
theorem fd_nil (L : List SP) : Ct Try.prog 28 #[.pointer none] (L) (fun _ : Unit => .int .i64 (-1)) (fun _ : Unit => L) := by
  refine Ct.of (vs := [.pointer none]) Try.func28 rfl rfl [(0, .pointer none)] (by repeat (first | exact trivial | refine ⟨rfl, ?_⟩)) ?_
  intro E
  show Hd E 9 _ _ _ _
  refine Hd.seq (fun K1 hK1 => ?_)
  refine Hd.region ?_
  refine Hd.yv (y_assign rfl) ?_
  refine Hd.nil ?_
  refine Hd.slots [(0, _)] ⟨rfl, trivial⟩ ?_
  refine Hd.toK hK1 ?_
  refine Hd.seq (fun K2 hK2 => ?_)
  refine Hd.seq (fun K3 hK3 => ?_)
  refine Hd.region ?_
  refine Hd.yv (y_move rfl) ?_
  refine Hd.callE rfl fk36 (bnone_nil _) (Ent.sep enn) ?_
  intro _
  refine Hd.nil ?_
  refine Hd.slots [(0, _), (4, _)] ⟨rfl, rfl, trivial⟩ ?_
  refine Hd.toK hK3 ?_
  refine Hd.condT rfl ?_
  refine Hd.seq (fun K4 hK4 => ?_)
  refine Hd.region ?_
  refine Hd.yv (y_assign rfl) ?_
  refine Hd.nil ?_
  refine Hd.slots [(2, _)] ⟨rfl, trivial⟩ ?_
  refine Hd.toK hK4 ?_
  refine Hd.ret ?_
  refine Hd.thenRet ?_
  clear hK1 hK2 hK3 hK4
  exact Hd.ret1 rfl () (by first | rfl | (simp only [*]; done) | (simp [*]; done)) (Ent.sep enn)
set_option maxHeartbeats 2000000 in
theorem wants_nil (L : List SP) : Ct Try.prog 26 #[.pointer none] (L) (fun _ : Unit => .int .i64 0) (fun _ : Unit => L) := by
  refine Ct.of (vs := [.pointer none]) Try.func26 rfl rfl [(0, .pointer none)] (by repeat (first | exact trivial | refine ⟨rfl, ?_⟩)) ?_
  intro E
  show Hd E 54 _ _ _ _
  refine Hd.seq (fun K1 hK1 => ?_)
  refine Hd.region ?_
  refine Hd.yv (y_assign rfl) ?_
  refine Hd.nil ?_
  refine Hd.slots [(0, _)] ⟨rfl, trivial⟩ ?_
  refine Hd.toK hK1 ?_
  refine Hd.seq (fun K2 hK2 => ?_)
  refine Hd.region ?_
  refine Hd.alloc zr3 (fun b3 => ?_)
  first | (refine Hd.store1 sz3 rfl rfl rfl pkk (by first | decide | (simp; done) | (simp; omega)) ?_) | (refine Hd.storeG1 sz3 rfl rfl rfl pkk (by first | decide | (simp; done) | (simp; omega)) ?_) | (refine Hd.storeO1 sz3 rfl rfl rfl pkk (by first | omega | (simp; done) | (simp; omega)) ?_)
  try simp only [List.set_cons_zero, List.set_cons_succ]
  refine Hd.nil ?_
  refine Hd.slots [(0, _), (3, _)] ⟨rfl, rfl, trivial⟩ ?_
  refine Hd.toK hK2 ?_
  refine Hd.seq (fun K3 hK3 => ?_)
  refine Hd.seq (fun K4 hK4 => ?_)
  refine Hd.region ?_
  refine Hd.yv (y_move rfl) ?_
  refine Hd.callE rfl fk36 (bnone_nil _) (Ent.sep enn) ?_
  intro _
  refine Hd.nil ?_
  refine Hd.slots [(0, _), (3, _), (8, _)] ⟨rfl, rfl, rfl, trivial⟩ ?_
  refine Hd.toK hK4 ?_
  refine Hd.condT rfl ?_
  refine Hd.seq (fun K5 hK5 => ?_)
  refine Hd.region ?_
  first | (refine Hd.yv (y_load1 ag3 rfl (Rd.pt1 pkk (by (first | rfl)))) ?_) | (refine Hd.yv (y_load1 ag3 rfl (Rd.seg1 pkk (by (first | rfl)))) ?_) | (refine Hd.yv (y_loadR1 ag3 rfl (by (first | exact RdS.own pkk)) (by (first | rfl))) ?_)
  refine Hd.yv (y_assign rfl) ?_
  refine Hd.nil ?_
  refine Hd.slots [(2, _)] ⟨rfl, trivial⟩ ?_
  refine Hd.toK hK5 ?_
  refine Hd.ret ?_
  refine Hd.thenRet ?_
  clear hK1 hK2 hK3 hK4 hK5
  exact Hd.ret1 rfl () (by first | rfl | (simp only [*]; done) | (simp [*]; done)) (Ent.sep enn)
set_option maxHeartbeats 2000000 in
theorem write_nil (L : List SP) (now : Int) (v : Value) : Ct Try.prog 19 #[.pointer none, .int .u64 now, v] (L) (fun _ : Unit => .int .i64 1) (fun _ : Unit => L) := by
  refine Ct.of (vs := [.pointer none, .int .u64 now, v]) Try.func19 rfl rfl [(0, .pointer none), (1, .int .u64 now), (2, v)] (by repeat (first | exact trivial | refine ⟨rfl, ?_⟩)) ?_
  intro E
  show Hd E 30 _ _ _ _
  refine Hd.seq (fun K1 hK1 => ?_)
  refine Hd.region ?_
  refine Hd.yv (y_assign rfl) ?_
  refine Hd.nil ?_
  refine Hd.slots [(0, _), (1, _), (2, _)] ⟨rfl, rfl, rfl, trivial⟩ ?_
  refine Hd.toK hK1 ?_
  refine Hd.seq (fun K2 hK2 => ?_)
  refine Hd.seq (fun K3 hK3 => ?_)
  refine Hd.region ?_
  refine Hd.yv (y_move rfl) ?_
  refine Hd.callE rfl fk36 (bnone_nil _) (Ent.sep enn) ?_
  intro _
  refine Hd.nil ?_
  refine Hd.slots [(0, _), (1, _), (2, _), (9, _)] ⟨rfl, rfl, rfl, rfl, trivial⟩ ?_
  refine Hd.toK hK3 ?_
  refine Hd.condT rfl ?_
  refine Hd.seq (fun K4 hK4 => ?_)
  refine Hd.region ?_
  refine Hd.yv (y_assign rfl) ?_
  refine Hd.nil ?_
  refine Hd.slots [(6, _)] ⟨rfl, trivial⟩ ?_
  refine Hd.toK hK4 ?_
  refine Hd.ret ?_
  refine Hd.thenRet ?_
  clear hK1 hK2 hK3 hK4
  exact Hd.ret1 rfl () (by first | rfl | (simp only [*]; done) | (simp [*]; done)) (Ent.sep enn)
set_option maxHeartbeats 2000000 in
theorem read_nil (L : List SP) (n : Int) : Ct Try.prog 16 #[.pointer none, .int .i64 n] (L) (fun _ : Unit => .slice none 0 0) (fun _ : Unit => L) := by
  refine Ct.of (vs := [.pointer none, .int .i64 n]) Try.func16 rfl rfl [(0, .pointer none), (1, .int .i64 n)] (by repeat (first | exact trivial | refine ⟨rfl, ?_⟩)) ?_
  intro E
  show Hd E 18 _ _ _ _
  refine Hd.seq (fun K1 hK1 => ?_)
  refine Hd.region ?_
  refine Hd.yv (y_assign rfl) ?_
  refine Hd.nil ?_
  refine Hd.slots [(0, _), (1, _)] ⟨rfl, rfl, trivial⟩ ?_
  refine Hd.toK hK1 ?_
  refine Hd.seq (fun K2 hK2 => ?_)
  refine Hd.seq (fun K3 hK3 => ?_)
  refine Hd.region ?_
  refine Hd.yv (y_move rfl) ?_
  refine Hd.callE rfl fk36 (bnone_nil _) (Ent.sep enn) ?_
  intro _
  refine Hd.yv (y_move rfl) ?_
  apply Hd.org 3 7 10 [(0, _), (1, _)] rfl ⟨rfl, rfl, trivial⟩
  · intro hg1_7
    try simp only [decide_eq_true_eq, decide_eq_false_iff_not, Bool.and_eq_true, Bool.or_eq_true, Bool.and_eq_false_iff, Bool.or_eq_false_iff, Bool.not_eq_true', Bool.not_eq_false', Bool.not_eq_true, Bool.not_eq_false, Int.not_lt, Int.not_le, Decidable.not_not, ne_eq] at hg1_7
    simp only [List.take]
    refine Hd.ng rfl rfl rfl ?_
    refine Hd.ng rfl rfl rfl ?_
    first | (refine Hd.yv (y_pickT rfl rfl) ?_) | (refine Hd.yv (y_pickF rfl rfl) ?_) | (refine Hd.yv (y_pickb rfl rfl rfl) ?_) | (refine Hd.yv (y_pick rfl rfl rfl) ?_)
    refine Hd.nil ?_
    exact Hd.mend (by repeat (first | exact trivial | refine ⟨rfl, ?_⟩)) (Ent.sep enn)
  · intro hg1_7
    try simp only [decide_eq_true_eq, decide_eq_false_iff_not, Bool.and_eq_true, Bool.or_eq_true, Bool.and_eq_false_iff, Bool.or_eq_false_iff, Bool.not_eq_true', Bool.not_eq_false', Bool.not_eq_true, Bool.not_eq_false, Int.not_lt, Int.not_le, Decidable.not_not, ne_eq] at hg1_7
    simp only [List.take]
    refine Hd.yg rfl rfl (y_move rfl) ?_
    refine Hd.yg rfl rfl (y_lss rfl rfl) ?_
    first | (refine Hd.yv (y_pickT rfl rfl) ?_) | (refine Hd.yv (y_pickF rfl rfl) ?_) | (refine Hd.yv (y_pickb rfl rfl rfl) ?_) | (refine Hd.yv (y_pick rfl rfl rfl) ?_)
    refine Hd.nil ?_
    exact Hd.mend (by repeat (first | exact trivial | refine ⟨rfl, ?_⟩)) (Ent.sep enn)
  simp only [List.drop]
  refine Hd.nil ?_
  refine Hd.slots [(0, _), (1, _), (10, _)] ⟨rfl, rfl, rfl, trivial⟩ ?_
  refine Hd.toK hK3 ?_
  refine Hd.condT rfl ?_
  refine Hd.seq (fun K4 hK4 => ?_)
  refine Hd.region ?_
  refine Hd.yv (y_assign rfl) ?_
  refine Hd.nil ?_
  refine Hd.slots [(4, _)] ⟨rfl, trivial⟩ ?_
  refine Hd.toK hK4 ?_
  refine Hd.ret ?_
  refine Hd.thenRet ?_
  clear hK1 hK2 hK3 hK4
  exact Hd.ret1 rfl () (by first | rfl | (simp only [*]; done) | (simp [*]; done)) (Ent.sep enn)
set_option maxHeartbeats 2000000 in
theorem late_nil (L : List SP) (now : Int) : Ct Try.prog 22 #[.pointer none, .int .u64 now] (L) (fun _ : Unit => .agg (encT noT).toArray) (fun _ : Unit => L) := by
  refine Ct.of (vs := [.pointer none, .int .u64 now]) Try.func22 rfl rfl [(0, .pointer none), (1, .int .u64 now)] (by repeat (first | exact trivial | refine ⟨rfl, ?_⟩)) ?_
  intro E
  show Hd E 50 _ _ _ _
  refine Hd.seq (fun K1 hK1 => ?_)
  refine Hd.region ?_
  refine Hd.box rfl rfl (fun b3 => ?_)
  refine Hd.alloc zr49 (fun b4 => ?_)
  refine Hd.nil ?_
  refine Hd.slots [(0, _), (3, _), (4, _)] ⟨rfl, rfl, rfl, trivial⟩ ?_
  refine Hd.toK hK1 ?_
  refine Hd.seq (fun K2 hK2 => ?_)
  refine Hd.region ?_
  refine Hd.alloc zr49 (fun b5 => ?_)
  refine Hd.nil ?_
  refine Hd.slots [(0, _), (3, _), (4, _), (5, _)] ⟨rfl, rfl, rfl, rfl, trivial⟩ ?_
  refine Hd.toK hK2 ?_
  refine Hd.seq (fun K3 hK3 => ?_)
  refine Hd.seq (fun K4 hK4 => ?_)
  refine Hd.region ?_
  refine Hd.yv (y_move rfl) ?_
  refine Hd.callE rfl fk36 (bnone_nil _) (Ent.sep enn) ?_
  intro _
  refine Hd.nil ?_
  refine Hd.slots [(0, _), (3, _), (4, _), (5, _), (9, _)] ⟨rfl, rfl, rfl, rfl, rfl, trivial⟩ ?_
  refine Hd.toK hK4 ?_
  refine Hd.condT rfl ?_
  refine Hd.seq (fun K5 hK5 => ?_)
  refine Hd.region ?_
  refine Hd.yv (y_loadn (us := encT noT) ag49 rfl (Rd.pt pkk (fun j v e => by rw [Nat.zero_add]; exact e)) (by exact sz49)) ?_
  refine Hd.storeA (us := encT noT) sz49 rfl rfl rfl (by simp [Value.oneCell']) pkk (by exact rfl) ?_
  refine Hd.nil ?_
  refine Hd.slots [(4, _)] ⟨rfl, trivial⟩ ?_
  refine Hd.toK hK5 ?_
  refine Hd.ret ?_
  refine Hd.thenRet ?_
  clear hK1 hK2 hK3 hK4 hK5
  exact Hd.retC rfl () ag49 rfl (Rd.pt (us := encT noT) pkk (fun j v e => by rw [Nat.zero_add]; exact e)) (by exact sz49) rfl (Ent.sep enn)
set_option maxHeartbeats 2000000 in
theorem step_nil (L : List SP) (now flags most much : Int) : Ct Try.prog 18 #[.pointer none, .int .u64 now, .int .i64 flags, .int .i64 most, .int .i64 much] (L) (fun _ : Unit => .agg (encT noT).toArray) (fun _ : Unit => L) := by
  refine Ct.of (vs := [.pointer none, .int .u64 now, .int .i64 flags, .int .i64 most, .int .i64 much]) Try.func18 rfl rfl [(0, .pointer none), (1, .int .u64 now), (2, .int .i64 flags), (3, .int .i64 most), (4, .int .i64 much)] (by repeat (first | exact trivial | refine ⟨rfl, ?_⟩)) ?_
  intro E
  show Hd E 32 _ _ _ _
  refine Hd.seq (fun K1 hK1 => ?_)
  refine Hd.region ?_
  refine Hd.alloc zr49 (fun b10 => ?_)
  refine Hd.nil ?_
  refine Hd.slots [(0, _), (1, _), (2, _), (3, _), (4, _), (10, _)] ⟨rfl, rfl, rfl, rfl, rfl, rfl, trivial⟩ ?_
  refine Hd.toK hK1 ?_
  refine Hd.seq (fun K2 hK2 => ?_)
  refine Hd.region ?_
  refine Hd.alloc zr49 (fun b11 => ?_)
  refine Hd.nil ?_
  refine Hd.slots [(0, _), (1, _), (2, _), (3, _), (4, _), (10, _), (11, _)] ⟨rfl, rfl, rfl, rfl, rfl, rfl, rfl, trivial⟩ ?_
  refine Hd.toK hK2 ?_
  refine Hd.seq (fun K3 hK3 => ?_)
  refine Hd.region ?_
  refine Hd.yv (y_move rfl) ?_
  refine Hd.yv (y_move rfl) ?_
  refine Hd.callE rfl fk26 (wants_nil _) (Ent.sep enn) ?_
  intro _
  refine Hd.yv (y_to (v' := .int .i64 0) (y_and rfl rfl) (by (congr 1; unfold bits; simp; decide))) ?_
  refine Hd.yv (y_assign rfl) ?_
  refine Hd.nil ?_
  refine Hd.slots [(0, _), (1, _), (3, _), (4, _), (10, _), (11, _), (12, _)] ⟨rfl, rfl, rfl, rfl, rfl, rfl, rfl, trivial⟩ ?_
  refine Hd.toK hK3 ?_
  refine Hd.seq (fun K4 hK4 => ?_)
  refine Hd.seq (fun K5 hK5 => ?_)
  refine Hd.region ?_
  refine Hd.yv (y_move rfl) ?_
  refine Hd.yv (y_and rfl rfl) ?_
  refine Hd.yv (y_to (y_neq rfl rfl) (congrArg Value.bool (decide_eq_false ((by decide +kernel))))) ?_
  refine Hd.nil ?_
  refine Hd.slots [(0, _), (1, _), (3, _), (4, _), (10, _), (11, _), (12, _), (19, _)] ⟨rfl, rfl, rfl, rfl, rfl, rfl, rfl, rfl, trivial⟩ ?_
  refine Hd.toK hK5 ?_
  refine Hd.condF rfl ?_
  refine Hd.skip ?_
  refine Hd.toK hK4 ?_
  refine Hd.seq (fun K6 hK6 => ?_)
  refine Hd.seq (fun K7 hK7 => ?_)
  refine Hd.region ?_
  refine Hd.yv (y_move rfl) ?_
  refine Hd.yv (y_and rfl rfl) ?_
  refine Hd.yv (y_to (y_neq rfl rfl) (congrArg Value.bool (decide_eq_false ((by decide +kernel))))) ?_
  refine Hd.nil ?_
  refine Hd.slots [(0, _), (1, _), (4, _), (10, _), (11, _), (26, _)] ⟨rfl, rfl, rfl, rfl, rfl, rfl, trivial⟩ ?_
  refine Hd.toK hK7 ?_
  refine Hd.condF rfl ?_
  refine Hd.skip ?_
  refine Hd.toK hK6 ?_
  refine Hd.seq (fun K8 hK8 => ?_)
  refine Hd.region ?_
  refine Hd.yv (y_loadn (us := encT noT) ag49 rfl (Rd.pt pkk (fun j v e => by rw [Nat.zero_add]; exact e)) (by exact sz49)) ?_
  refine Hd.storeA (us := encT noT) sz49 rfl rfl rfl (by simp [Value.oneCell']) pkk (by exact rfl) ?_
  refine Hd.nil ?_
  refine Hd.slots [(10, _)] ⟨rfl, trivial⟩ ?_
  refine Hd.toK hK8 ?_
  refine Hd.ret ?_
  clear hK1 hK2 hK3 hK4 hK5 hK6 hK7 hK8
  exact Hd.retC rfl () ag49 rfl (Rd.pt (us := encT noT) pkk (fun j v e => by rw [Nat.zero_add]; exact e)) (by exact sz49) rfl (Ent.sep enn)
set_option maxHeartbeats 2000000 in
theorem bnew_no (L : List SP) (wb : Nat) (w : WA) (fd : Int) (h : (readyR w fd).op = false) : Ct Try.prog 12 #[.pointer (some ⟨wb, 0, none⟩), .int .i64 fd] (WorldP wb w :: L) (fun _ : Unit => .tuple #[.pointer none, .int .i64 110]) (fun _ : Unit => WorldP wb w :: L) := by
  refine Ct.of (vs := [.pointer (some ⟨wb, 0, none⟩), .int .i64 fd]) Try.func12 rfl rfl [(0, .pointer (some ⟨wb, 0, none⟩)), (1, .int .i64 fd)] (by repeat (first | exact trivial | refine ⟨rfl, ?_⟩)) ?_
  intro E
  show Hd E 36 _ _ _ _
  refine Hd.seq (fun K1 hK1 => ?_)
  refine Hd.region ?_
  refine Hd.yv (y_assign rfl) ?_
  refine Hd.yv (y_assign rfl) ?_
  refine Hd.nil ?_
  refine Hd.slots [(0, _), (1, _)] ⟨rfl, rfl, trivial⟩ ?_
  refine Hd.toK hK1 ?_
  refine Hd.seq (fun K2 hK2 => ?_)
  refine Hd.block ?_
  refine Hd.seq (fun K3 hK3 => ?_)
  refine Hd.region ?_
  refine Hd.yv (y_move rfl) ?_
  first | (refine Hd.yv (y_eql_pointer Try.underlying25 rfl rfl) ?_) | (refine Hd.yv (y_eql_one Try.underlying25 sz78 rfl rfl rfl) ?_)
  refine Hd.yv (y_assign rfl) ?_
  refine Hd.nil ?_
  refine Hd.slots [(0, _), (1, _), (7, _)] ⟨rfl, rfl, rfl, trivial⟩ ?_
  refine Hd.toK hK3 ?_
  refine Hd.condF rfl ?_
  refine Hd.seq (fun K4 hK4 => ?_)
  refine Hd.region ?_
  refine Hd.yv (y_move rfl) ?_
  refine Hd.yv (y_move rfl) ?_
  refine Hd.callE rfl fk35 (wready_ct _ wb w fd) (Ent.sep enn) ?_
  intro _
  refine Hd.yv (y_to (v' := .bool false) (y_fieldv1 (q := 0) (ft := 4) (cs := encR (readyR w fd)) Try.underlying85 rfl ag4 rfl rfl) (by rw [h])) ?_
  refine Hd.yv (y_not rfl) ?_
  refine Hd.yv (y_assign rfl) ?_
  refine Hd.nil ?_
  refine Hd.slots [(0, _), (1, _), (10, _)] ⟨rfl, rfl, rfl, trivial⟩ ?_
  refine Hd.toK hK4 ?_
  refine Hd.condT rfl ?_
  refine Hd.seq (fun K5 hK5 => ?_)
  refine Hd.region ?_
  refine Hd.yv (y_assign rfl) ?_
  refine Hd.yv (y_assign rfl) ?_
  refine Hd.nil ?_
  refine Hd.slots [(4, _), (5, _)] ⟨rfl, rfl, trivial⟩ ?_
  refine Hd.toK hK5 ?_
  refine Hd.ret ?_
  refine Hd.inBret ?_
  refine Hd.thenRet ?_
  clear hK1 hK2 hK3 hK4 hK5
  exact Hd.ret2 rfl () rfl rfl (by first | rfl | (simp only [*]; done) | (simp [*]; done)) (Ent.sep enn)
set_option maxHeartbeats 2000000 in
theorem bnew_nil (L : List SP) (fd : Int) : Ct Try.prog 12 #[.pointer none, .int .i64 fd] (L) (fun _ : Unit => .tuple #[.pointer none, .int .i64 1]) (fun _ : Unit => L) := by
  refine Ct.of (vs := [.pointer none, .int .i64 fd]) Try.func12 rfl rfl [(0, .pointer none), (1, .int .i64 fd)] (by repeat (first | exact trivial | refine ⟨rfl, ?_⟩)) ?_
  intro E
  show Hd E 36 _ _ _ _
  refine Hd.seq (fun K1 hK1 => ?_)
  refine Hd.region ?_
  refine Hd.yv (y_assign rfl) ?_
  refine Hd.yv (y_assign rfl) ?_
  refine Hd.nil ?_
  refine Hd.slots [(0, _), (1, _)] ⟨rfl, rfl, trivial⟩ ?_
  refine Hd.toK hK1 ?_
  refine Hd.seq (fun K2 hK2 => ?_)
  refine Hd.block ?_
  refine Hd.seq (fun K3 hK3 => ?_)
  refine Hd.region ?_
  refine Hd.yv (y_move rfl) ?_
  first | (refine Hd.yv (y_eql_pointer Try.underlying25 rfl rfl) ?_) | (refine Hd.yv (y_eql_one Try.underlying25 sz78 rfl rfl rfl) ?_)
  refine Hd.yv (y_assign rfl) ?_
  refine Hd.nil ?_
  refine Hd.slots [(0, _), (1, _), (7, _)] ⟨rfl, rfl, rfl, trivial⟩ ?_
  refine Hd.toK hK3 ?_
  refine Hd.condT rfl ?_
  refine Hd.seq (fun K4 hK4 => ?_)
  refine Hd.region ?_
  refine Hd.yv (y_assign rfl) ?_
  refine Hd.yv (y_assign rfl) ?_
  refine Hd.nil ?_
  refine Hd.slots [(4, _), (5, _)] ⟨rfl, rfl, trivial⟩ ?_
  refine Hd.toK hK4 ?_
  refine Hd.ret ?_
  refine Hd.inBret ?_
  refine Hd.thenRet ?_
  clear hK1 hK2 hK3 hK4
  exact Hd.ret2 rfl () rfl rfl (by first | rfl | (simp only [*]; done) | (simp [*]; done)) (Ent.sep enn)
abbrev defg : List UInt8 := [100, 101, 102, 103]
abbrev abcd : List UInt8 := [97, 98, 99, 100]
abbrev nW2 : WA := (writeR alS.w 1 defg).2
abbrev nS2 : StA := stepS alS.x nW2 0 2 99 99
abbrev nX3 : BfA := readB nS2.x 9
abbrev nX4 : BfA := wrB nX3 0 [120, 121, 122]
abbrev nS3 : StA := stepS nX4 nS2.w 0 4 99 2
abbrev nS4 : StA := stepS nS3.x nS3.w 5 4 99 99
abbrev nX5 : BfA := mrkB (mrkB (mrkB (enB nS4.x 0 1) 4 0 5) 2 5 4) 6 0 0
abbrev nW5 : WA := (closeR nS4.w 1).2
abbrev nS6 : StA := stepS nX5 nW5 0 2 99 99
abbrev nS7 : StA := stepS nS6.x nS6.w 0 2 99 99
theorem nm_1 : encT nS2.t = [.bool true, .bool false, .int .i64 0, .int .i64 0, .int .i64 1, .int .i64 0] := by rfl
theorem nm_2 : wantsA nS2.x = 0 := by decide +kernel
theorem nm_3 : readA nS2.x 9 = abcd := by decide +kernel
theorem nm_4 : wrE nX3 [120, 121, 122] = 0 := by decide +kernel
theorem nm_5 : wantsA nX4 = 6 := by decide +kernel
theorem nm_6 : encT nS3.t = [.bool false, .bool false, .int .i64 0, .int .i64 0, .int .i64 0, .int .i64 2] := by rfl
theorem nm_7 : encT nS4.t = [.bool false, .bool true, .int .i64 0, .int .i64 0, .int .i64 0, .int .i64 1] := by rfl
theorem nm_8 : enE 1 = 2 := by decide +kernel
theorem nm_9 : mrkE 4 0 5 = 2 := by decide +kernel
theorem nm_10 : mrkE 2 5 4 = 2 := by decide +kernel
theorem nm_11 : mrkE 6 0 0 = 2 := by decide +kernel
theorem nm_12 : encT nS7.t = [.bool false, .bool false, .int .i64 17, .int .i64 0, .int .i64 0, .int .i64 0] := by rfl
theorem nm_13 : onM nS7.x (sidesA 6) = 4 := by decide +kernel
theorem nm_14 : (readyR nS7.w 1).op = false := by decide +kernel
theorem nm_k1 : BOk alS.x := bok_step al_k2 (by simp [InK]) _ _ _ _
theorem nm_k2 : BOk nS2.x := bok_step nm_k1 (by simp [InK]) _ _ _ _
theorem nm_k3 : BOk nX3 := bok_get nm_k2 9
theorem nm_k4 : BOk nX4 := bok_put nm_k3 (by simp [InK]) _
theorem nm_k5 : BOk nS3.x := bok_step nm_k4 (by simp [InK]) _ _ _ _
theorem nm_k6 : BOk nS4.x := bok_step nm_k5 (by simp [InK]) _ _ _ _
theorem nm_k7 : BOk nX5 := bok_mrk (bok_mrk (bok_mrk (bok_en nm_k6 (by simp [InK]) 1) 4 0 5) 2 5 4) 6 0 0
theorem nm_k8 : BOk nS6.x := bok_step nm_k7 (by simp [InK]) _ _ _ _
theorem nm_wt : ∀ x ∈ nS4.w.ws, x.wt = [] := by
  have h : nS4.w.ws.all (fun x => x.wt.isEmpty) = true := by decide +kernel
  intro x hx
  have := List.all_eq_true.1 h x hx
  simpa using this
set_option maxHeartbeats 2000000 in
theorem bnames_ct (L : List SP) : Ct Try.prog 6 #[] (L) (fun _ : Unit => .bool true) (fun _ : Unit => L) := by
  refine Ct.of (vs := []) Try.func6 rfl rfl [] (by repeat (first | exact trivial | refine ⟨rfl, ?_⟩)) ?_
  intro E
  show Hd E 190 _ _ _ _
  refine Hd.seq (fun K1 hK1 => ?_)
  refine Hd.region ?_
  refine Hd.yv (y_assign rfl) ?_
  refine Hd.nil ?_
  refine Hd.slots [] trivial ?_
  refine Hd.toK hK1 ?_
  refine Hd.seq (fun K2 hK2 => ?_)
  refine Hd.region ?_
  refine Hd.callE rfl fk10 (wnew_ct _) (Ent.sep enn) ?_
  intro wb
  refine Hd.yv (y_assign rfl) ?_
  refine Hd.nil ?_
  refine Hd.slots [(1, _)] ⟨rfl, trivial⟩ ?_
  refine Hd.toK hK2 ?_
  refine Hd.seq (fun K3 hK3 => ?_)
  refine Hd.region ?_
  refine Hd.yv (y_move rfl) ?_
  refine Hd.callE rfl fk11 (pair_ct _ wb newA 8 (by decide) (by decide)) (Ent.sep enn) ?_
  intro _
  refine Hd.nil ?_
  refine Hd.slots [(1, _)] ⟨rfl, trivial⟩ ?_
  refine Hd.toK hK3 ?_
  refine Hd.seq (fun K4 hK4 => ?_)
  refine Hd.region ?_
  refine Hd.yv (y_move rfl) ?_
  refine Hd.callE rfl fk12 (bnew_ct _ wb (pairA 8) 0 al_op) (Ent.sep enn) ?_
  intro b
  refine Hd.yv (y_move rfl) ?_
  refine Hd.yv (y_extract rfl rfl) ?_
  refine Hd.yv (y_extract rfl rfl) ?_
  refine Hd.yv (y_assign rfl) ?_
  refine Hd.yv (y_assign rfl) ?_
  refine Hd.nil ?_
  refine Hd.slots [(1, _), (2, _)] ⟨rfl, rfl, trivial⟩ ?_
  refine Hd.toK hK4 ?_
  refine Hd.seq (fun K5 hK5 => ?_)
  refine Hd.region ?_
  refine Hd.yv (y_move rfl) ?_
  refine Hd.callE rfl fk14 (enable_ct _ b wb (newB 0) (tm_new 0) 0 2 (by simp [InK])) (Ent.sep enn) ?_
  intro _
  refine Hd.nil ?_
  refine Hd.slots [(1, _), (2, _)] ⟨rfl, rfl, trivial⟩ ?_
  refine Hd.toK hK5 ?_
  refine Hd.seq (fun K6 hK6 => ?_)
  refine Hd.region ?_
  refine Hd.yv (y_move rfl) ?_
  refine Hd.callE rfl fk13 (marks_ct _ b wb alX1 2 2 4) (Ent.sep enn) ?_
  intro _
  refine Hd.nil ?_
  refine Hd.slots [(1, _), (2, _)] ⟨rfl, rfl, trivial⟩ ?_
  refine Hd.toK hK6 ?_
  refine Hd.seq (fun K7 hK7 => ?_)
  refine Hd.region ?_
  refine Hd.yv (y_move rfl) ?_
  refine Hd.bslice (vs := [(0, _), (1, _), (2, _)]) rfl (by first | exact bs6_37 .. | kernel_rfl) (fun b37 => ?_)
  refine Hd.convSS (e := 5) (by kernel_rfl) rfl pkk rfl (by first | decide | (simp [maxLen])) ?_
  refine Hd.callE rfl fk24 (wwrite_ct _ wb (pairA 8) 1 (some ⟨b37, 0, none⟩) 3 3 abc rfl ?hD (by decide) (by decide)) (Ent.sep enn) ?_
  case hD => exact RdS.own (m := 3) (us := [.int .u8 97, .int .u8 98, .int .u8 99]) pkk
  intro _
  refine Hd.nil ?_
  refine Hd.slots [(1, _), (2, _)] ⟨rfl, rfl, trivial⟩ ?_
  refine Hd.toK hK7 ?_
  refine Hd.seq (fun K8 hK8 => ?_)
  refine Hd.region ?_
  refine Hd.yv (y_move rfl) ?_
  refine Hd.callE rfl fk18 (step_ct _ b wb alX2 alW al_k2.tm al_k2.hi 0 2 99 99 (by simp [InK]) (by decide) (by simp [InK])) (Ent.sep enn) ?_
  intro _
  refine Hd.nil ?_
  refine Hd.slots [(1, _), (2, _)] ⟨rfl, rfl, trivial⟩ ?_
  refine Hd.toK hK8 ?_
  refine Hd.seq (fun K9 hK9 => ?_)
  refine Hd.region ?_
  refine Hd.yv (y_move rfl) ?_
  refine Hd.bslice (vs := [(0, _), (1, _), (2, _), (3, _)]) rfl (by first | exact bs6_43 .. | kernel_rfl) (fun b43 => ?_)
  refine Hd.convSS (e := 5) (by kernel_rfl) rfl pkk rfl (by first | decide | (simp [maxLen])) ?_
  refine Hd.callE rfl fk24 (wwrite_ct _ wb alS.w 1 (some ⟨b43, 0, none⟩) 4 4 defg rfl ?hD (by decide) (by decide)) (Ent.sep enn) ?_
  case hD => exact RdS.own (m := 4) (us := [.int .u8 100, .int .u8 101, .int .u8 102, .int .u8 103]) pkk
  intro _
  refine Hd.nil ?_
  refine Hd.slots [(1, _), (2, _)] ⟨rfl, rfl, trivial⟩ ?_
  refine Hd.toK hK9 ?_
  refine Hd.seq (fun K10 hK10 => ?_)
  refine Hd.region ?_
  refine Hd.yv (y_move rfl) ?_
  refine Hd.callE rfl fk18 (step_ct _ b wb alS.x nW2 nm_k1.tm nm_k1.hi 0 2 99 99 (by simp [InK]) (by decide) (by simp [InK])) (Ent.sep enn) ?_
  intro _
  rw [nm_1]
  refine Hd.alloc zr49 (fun b4 => ?_)
  refine Hd.storeA (us := [.bool true, .bool false, .int .i64 0, .int .i64 0, .int .i64 1, .int .i64 0]) sz49 rfl rfl rfl (by simp [Value.oneCell']) pkk (by exact rfl) ?_
  refine Hd.nil ?_
  refine Hd.slots [(1, _), (2, _), (4, _)] ⟨rfl, rfl, rfl, trivial⟩ ?_
  refine Hd.toK hK10 ?_
  refine Hd.seq (fun K11 hK11 => ?_)
  refine Hd.region ?_
  refine Hd.yv (y_move rfl) ?_
  refine Hd.callE rfl fk26 (wants_ct _ b wb nS2.x) (Ent.sep enn) ?_
  intro _
  rw [nm_2]
  refine Hd.yv (y_assign rfl) ?_
  refine Hd.nil ?_
  refine Hd.slots [(1, _), (2, _), (4, _), (5, _)] ⟨rfl, rfl, rfl, rfl, trivial⟩ ?_
  refine Hd.toK hK11 ?_
  refine Hd.seq (fun K12 hK12 => ?_)
  refine Hd.region ?_
  refine Hd.yv (y_move rfl) ?_
  refine Hd.callE rfl fk16 (bread_ct _ b wb nS2.x 9 (by decide)) (Ent.sep enn) ?_
  rintro ⟨a5, c5⟩
  dsimp only
  rw [nm_3]
  refine Hd.yv (y_assign rfl) ?_
  refine Hd.nil ?_
  refine Hd.slots [(1, _), (2, _), (4, _), (5, _), (6, _)] ⟨rfl, rfl, rfl, rfl, rfl, trivial⟩ ?_
  refine Hd.toK hK12 ?_
  refine Hd.seq (fun K13 hK13 => ?_)
  refine Hd.region ?_
  refine Hd.yv (y_loadn (us := [.bool true, .bool false, .int .i64 0, .int .i64 0, .int .i64 1, .int .i64 0]) ag49 rfl (Rd.pt pkk (fun j v e => by rw [Nat.zero_add]; exact e)) (by exact sz49)) ?_
  refine Hd.yv (y_build (vs := [(0, _), (4, _)]) rfl (by first | exact bd6_53 .. | kernel_rfl)) ?_
  refine Hd.yv (y_to (v' := .bool true) (y_eql_agg rfl rfl eqt49 rfl ⟨rfl, rfl⟩) (by rfl)) ?_
  refine Hd.yv (y_move rfl) ?_
  refine Hd.yg rfl rfl (y_move rfl) ?_
  first | (refine Hd.yg rfl rfl (y_to (y_eqlT rfl rfl) (congrArg Value.bool (decide_eq_true ((by rfl))))) ?_) | (refine Hd.yg rfl rfl (y_to (y_eql rfl rfl) (congrArg Value.bool (decide_eq_true ((by rfl))))) ?_)
  first | (refine Hd.yv (y_pickT rfl rfl) ?_) | (refine Hd.yv (y_pickF rfl rfl) ?_) | (refine Hd.yv (y_pickb rfl rfl rfl) ?_) | (refine Hd.yv (y_pick rfl rfl rfl) ?_)
  refine Hd.yv (y_move rfl) ?_
  refine Hd.yg rfl rfl (y_move rfl) ?_
  refine Hd.yg rfl rfl (y_strOf (l := abcd) (by kernel_rfl) Try.underlying9 rfl (by (first | exact RdS.own pkk))) ?_
  refine Hd.yg rfl rfl (y_to (v' := .bool true) (y_eqlstr rfl rfl) (by simp [abcd])) ?_
  first | (refine Hd.yv (y_pickT rfl rfl) ?_) | (refine Hd.yv (y_pickF rfl rfl) ?_) | (refine Hd.yv (y_pickb rfl rfl rfl) ?_) | (refine Hd.yv (y_pick rfl rfl rfl) ?_)
  refine Hd.yv (y_assign rfl) ?_
  refine Hd.nil ?_
  refine Hd.slots [(1, _), (2, _), (7, _)] ⟨rfl, rfl, rfl, trivial⟩ ?_
  refine Hd.toK hK13 ?_
  refine Hd.seq (fun K14 hK14 => ?_)
  refine Hd.region ?_
  refine Hd.yv (y_move rfl) ?_
  refine Hd.bslice (vs := [(0, _), (1, _), (2, _)]) rfl (by first | exact bs6_65 .. | kernel_rfl) (fun b65 => ?_)
  refine Hd.convSS (e := 5) (by kernel_rfl) rfl pkk rfl (by first | decide | (simp [maxLen])) ?_
  refine Hd.callE rfl fk19 (bwrite_ct _ b wb nX3 nm_k3.tm 0 (by simp [InK]) (some ⟨b65, 0, none⟩) 3 3 [120, 121, 122] rfl ?hD (by decide) (by decide)) (Ent.sep enn) ?_
  case hD => exact RdS.own (m := 3) (us := [.int .u8 120, .int .u8 121, .int .u8 122]) pkk
  intro _
  rw [nm_4]
  refine Hd.yv (y_assign rfl) ?_
  refine Hd.nil ?_
  refine Hd.slots [(1, _), (2, _), (7, _), (8, _)] ⟨rfl, rfl, rfl, rfl, trivial⟩ ?_
  refine Hd.toK hK14 ?_
  refine Hd.seq (fun K15 hK15 => ?_)
  refine Hd.region ?_
  refine Hd.yv (y_move rfl) ?_
  refine Hd.callE rfl fk26 (wants_ct _ b wb nX4) (Ent.sep enn) ?_
  intro _
  rw [nm_5]
  refine Hd.yv (y_assign rfl) ?_
  refine Hd.nil ?_
  refine Hd.slots [(1, _), (2, _), (7, _), (8, _), (9, _)] ⟨rfl, rfl, rfl, rfl, rfl, trivial⟩ ?_
  refine Hd.toK hK15 ?_
  refine Hd.seq (fun K16 hK16 => ?_)
  refine Hd.region ?_
  refine Hd.yv (y_move rfl) ?_
  refine Hd.callE rfl fk18 (step_ct _ b wb nX4 nS2.w nm_k4.tm nm_k4.hi 0 4 99 2 (by simp [InK]) (by decide) (by simp [InK])) (Ent.sep enn) ?_
  intro _
  rw [nm_6]
  refine Hd.alloc zr49 (fun b10 => ?_)
  refine Hd.storeA (us := [.bool false, .bool false, .int .i64 0, .int .i64 0, .int .i64 0, .int .i64 2]) sz49 rfl rfl rfl (by simp [Value.oneCell']) pkk (by exact rfl) ?_
  refine Hd.nil ?_
  refine Hd.slots [(1, _), (2, _), (7, _), (8, _), (9, _), (10, _)] ⟨rfl, rfl, rfl, rfl, rfl, rfl, trivial⟩ ?_
  refine Hd.toK hK16 ?_
  refine Hd.seq (fun K17 hK17 => ?_)
  refine Hd.region ?_
  refine Hd.yv (y_move rfl) ?_
  refine Hd.callE rfl fk18 (step_ct _ b wb nS3.x nS3.w nm_k5.tm nm_k5.hi 5 4 99 99 (by simp [InK]) (by decide) (by simp [InK])) (Ent.sep enn) ?_
  intro _
  rw [nm_7]
  refine Hd.alloc zr49 (fun b11 => ?_)
  refine Hd.storeA (us := [.bool false, .bool true, .int .i64 0, .int .i64 0, .int .i64 0, .int .i64 1]) sz49 rfl rfl rfl (by simp [Value.oneCell']) pkk (by exact rfl) ?_
  refine Hd.nil ?_
  refine Hd.slots [(1, _), (2, _), (7, _), (8, _), (9, _), (10, _), (11, _)] ⟨rfl, rfl, rfl, rfl, rfl, rfl, rfl, trivial⟩ ?_
  refine Hd.toK hK17 ?_
  refine Hd.seq (fun K18 hK18 => ?_)
  refine Hd.region ?_
  refine Hd.yv (y_move rfl) ?_
  first | (refine Hd.yv (y_to (y_eqlT rfl rfl) (congrArg Value.bool (decide_eq_true ((by rfl))))) ?_) | (refine Hd.yv (y_to (y_eql rfl rfl) (congrArg Value.bool (decide_eq_true ((by rfl))))) ?_)
  refine Hd.yv (y_move rfl) ?_
  refine Hd.yg rfl rfl (y_move rfl) ?_
  first | (refine Hd.yg rfl rfl (y_to (y_eqlT rfl rfl) (congrArg Value.bool (decide_eq_true ((by rfl))))) ?_) | (refine Hd.yg rfl rfl (y_to (y_eql rfl rfl) (congrArg Value.bool (decide_eq_true ((by rfl))))) ?_)
  first | (refine Hd.yv (y_pickT rfl rfl) ?_) | (refine Hd.yv (y_pickF rfl rfl) ?_) | (refine Hd.yv (y_pickb rfl rfl rfl) ?_) | (refine Hd.yv (y_pick rfl rfl rfl) ?_)
  refine Hd.yv (y_move rfl) ?_
  refine Hd.yg rfl rfl (y_loadn (us := [.bool false, .bool false, .int .i64 0, .int .i64 0, .int .i64 0, .int .i64 2]) ag49 rfl (Rd.pt pkk (fun j v e => by rw [Nat.zero_add]; exact e)) (by exact sz49)) ?_
  refine Hd.yg rfl rfl (y_build (vs := [(5, _)]) rfl (by first | exact bd6_82 .. | kernel_rfl)) ?_
  refine Hd.yg rfl rfl (y_to (v' := .bool true) (y_eql_agg rfl rfl eqt49 rfl ⟨rfl, rfl⟩) (by rfl)) ?_
  first | (refine Hd.yv (y_pickT rfl rfl) ?_) | (refine Hd.yv (y_pickF rfl rfl) ?_) | (refine Hd.yv (y_pickb rfl rfl rfl) ?_) | (refine Hd.yv (y_pick rfl rfl rfl) ?_)
  refine Hd.yv (y_move rfl) ?_
  refine Hd.yg rfl rfl (y_loadn (us := [.bool false, .bool true, .int .i64 0, .int .i64 0, .int .i64 0, .int .i64 1]) ag49 rfl (Rd.pt pkk (fun j v e => by rw [Nat.zero_add]; exact e)) (by exact sz49)) ?_
  refine Hd.yg rfl rfl (y_build (vs := [(1, _), (5, _)]) rfl (by first | exact bd6_87 .. | kernel_rfl)) ?_
  refine Hd.yg rfl rfl (y_to (v' := .bool true) (y_eql_agg rfl rfl eqt49 rfl ⟨rfl, rfl⟩) (by rfl)) ?_
  first | (refine Hd.yv (y_pickT rfl rfl) ?_) | (refine Hd.yv (y_pickF rfl rfl) ?_) | (refine Hd.yv (y_pickb rfl rfl rfl) ?_) | (refine Hd.yv (y_pick rfl rfl rfl) ?_)
  refine Hd.yv (y_assign rfl) ?_
  refine Hd.nil ?_
  refine Hd.slots [(1, _), (2, _), (7, _), (12, _)] ⟨rfl, rfl, rfl, rfl, trivial⟩ ?_
  refine Hd.toK hK18 ?_
  refine Hd.seq (fun K19 hK19 => ?_)
  refine Hd.region ?_
  refine Hd.yv (y_move rfl) ?_
  refine Hd.callE rfl fk14 (enable_ct _ b wb nS4.x nm_k6.tm 0 1 (by simp [InK])) (Ent.sep enn) ?_
  intro _
  rw [nm_8]
  refine Hd.yv (y_assign rfl) ?_
  refine Hd.nil ?_
  refine Hd.slots [(1, _), (2, _), (7, _), (12, _), (13, _)] ⟨rfl, rfl, rfl, rfl, rfl, trivial⟩ ?_
  refine Hd.toK hK19 ?_
  refine Hd.seq (fun K20 hK20 => ?_)
  refine Hd.region ?_
  refine Hd.yv (y_move rfl) ?_
  refine Hd.callE rfl fk13 (marks_ct _ b wb (enB nS4.x 0 1) 4 0 5) (Ent.sep enn) ?_
  intro _
  rw [nm_9]
  refine Hd.yv (y_assign rfl) ?_
  refine Hd.nil ?_
  refine Hd.slots [(1, _), (2, _), (7, _), (12, _), (13, _), (14, _)] ⟨rfl, rfl, rfl, rfl, rfl, rfl, trivial⟩ ?_
  refine Hd.toK hK20 ?_
  refine Hd.seq (fun K21 hK21 => ?_)
  refine Hd.region ?_
  refine Hd.yv (y_move rfl) ?_
  refine Hd.callE rfl fk13 (marks_ct _ b wb (mrkB (enB nS4.x 0 1) 4 0 5) 2 5 4) (Ent.sep enn) ?_
  intro _
  rw [nm_10]
  refine Hd.yv (y_assign rfl) ?_
  refine Hd.nil ?_
  refine Hd.slots [(1, _), (2, _), (7, _), (12, _), (13, _), (14, _), (15, _)] ⟨rfl, rfl, rfl, rfl, rfl, rfl, rfl, trivial⟩ ?_
  refine Hd.toK hK21 ?_
  refine Hd.seq (fun K22 hK22 => ?_)
  refine Hd.region ?_
  refine Hd.yv (y_move rfl) ?_
  refine Hd.callE rfl fk13 (marks_ct _ b wb (mrkB (mrkB (enB nS4.x 0 1) 4 0 5) 2 5 4) 6 0 0) (Ent.sep enn) ?_
  intro _
  rw [nm_11]
  refine Hd.yv (y_assign rfl) ?_
  refine Hd.nil ?_
  refine Hd.slots [(1, _), (2, _), (7, _), (12, _), (13, _), (14, _), (15, _), (16, _)] ⟨rfl, rfl, rfl, rfl, rfl, rfl, rfl, rfl, trivial⟩ ?_
  refine Hd.toK hK22 ?_
  refine Hd.seq (fun K23 hK23 => ?_)
  refine Hd.region ?_
  refine Hd.yv (y_move rfl) ?_
  refine Hd.callE rfl fk27 (wclose0_ct _ wb nS4.w 1 nm_wt) (Ent.sep enn) ?_
  intro _
  refine Hd.nil ?_
  refine Hd.slots [(1, _), (2, _), (7, _), (12, _), (13, _), (14, _), (15, _), (16, _)] ⟨rfl, rfl, rfl, rfl, rfl, rfl, rfl, rfl, trivial⟩ ?_
  refine Hd.toK hK23 ?_
  refine Hd.seq (fun K24 hK24 => ?_)
  refine Hd.region ?_
  refine Hd.yv (y_move rfl) ?_
  refine Hd.callE rfl fk18 (step_ct _ b wb nX5 nW5 nm_k7.tm nm_k7.hi 0 2 99 99 (by simp [InK]) (by decide) (by simp [InK])) (Ent.sep enn) ?_
  intro _
  refine Hd.nil ?_
  refine Hd.slots [(1, _), (2, _), (7, _), (12, _), (13, _), (14, _), (15, _), (16, _)] ⟨rfl, rfl, rfl, rfl, rfl, rfl, rfl, rfl, trivial⟩ ?_
  refine Hd.toK hK24 ?_
  refine Hd.seq (fun K25 hK25 => ?_)
  refine Hd.region ?_
  refine Hd.yv (y_move rfl) ?_
  refine Hd.callE rfl fk18 (step_ct _ b wb nS6.x nS6.w nm_k8.tm nm_k8.hi 0 2 99 99 (by simp [InK]) (by decide) (by simp [InK])) (Ent.sep enn) ?_
  intro _
  rw [nm_12]
  refine Hd.alloc zr49 (fun b17 => ?_)
  refine Hd.storeA (us := [.bool false, .bool false, .int .i64 17, .int .i64 0, .int .i64 0, .int .i64 0]) sz49 rfl rfl rfl (by simp [Value.oneCell']) pkk (by exact rfl) ?_
  refine Hd.nil ?_
  refine Hd.slots [(1, _), (2, _), (7, _), (12, _), (13, _), (14, _), (15, _), (16, _), (17, _)] ⟨rfl, rfl, rfl, rfl, rfl, rfl, rfl, rfl, rfl, trivial⟩ ?_
  refine Hd.toK hK25 ?_
  refine Hd.seq (fun K26 hK26 => ?_)
  refine Hd.region ?_
  refine Hd.yv (y_move rfl) ?_
  refine Hd.callE rfl fk12 (bnew_no _ wb nS7.w 1 nm_14) (Ent.sep enn) ?_
  intro _
  refine Hd.yv (y_move rfl) ?_
  refine Hd.yv (y_extract rfl rfl) ?_
  refine Hd.yv (y_extract rfl rfl) ?_
  refine Hd.yv (y_assign rfl) ?_
  refine Hd.yv (y_assign rfl) ?_
  refine Hd.nil ?_
  refine Hd.slots [(2, _), (7, _), (12, _), (13, _), (14, _), (15, _), (16, _), (17, _), (19, _)] ⟨rfl, rfl, rfl, rfl, rfl, rfl, rfl, rfl, rfl, trivial⟩ ?_
  refine Hd.toK hK26 ?_
  refine Hd.seq (fun K27 hK27 => ?_)
  refine Hd.region ?_
  refine Hd.callE rfl fk12 (bnew_nil _ 1) (Ent.sep enn) ?_
  intro _
  refine Hd.yv (y_move rfl) ?_
  refine Hd.yv (y_extract rfl rfl) ?_
  refine Hd.yv (y_extract rfl rfl) ?_
  refine Hd.yv (y_assign rfl) ?_
  refine Hd.yv (y_assign rfl) ?_
  refine Hd.nil ?_
  refine Hd.slots [(2, _), (7, _), (12, _), (13, _), (14, _), (15, _), (16, _), (17, _), (19, _), (21, _)] ⟨rfl, rfl, rfl, rfl, rfl, rfl, rfl, rfl, rfl, rfl, trivial⟩ ?_
  refine Hd.toK hK27 ?_
  refine Hd.seq (fun K28 hK28 => ?_)
  refine Hd.region ?_
  refine Hd.yv (y_assign rfl) ?_
  refine Hd.nil ?_
  refine Hd.slots [(2, _), (7, _), (12, _), (13, _), (14, _), (15, _), (16, _), (17, _), (19, _), (21, _), (22, _)] ⟨rfl, rfl, rfl, rfl, rfl, rfl, rfl, rfl, rfl, rfl, rfl, trivial⟩ ?_
  refine Hd.toK hK28 ?_
  refine Hd.seq (fun K29 hK29 => ?_)
  refine Hd.region ?_
  refine Hd.yv (y_move rfl) ?_
  first | (refine Hd.yv (y_to (y_eqlT rfl rfl) (congrArg Value.bool (decide_eq_true ((by rfl))))) ?_) | (refine Hd.yv (y_to (y_eql rfl rfl) (congrArg Value.bool (decide_eq_true ((by rfl))))) ?_)
  refine Hd.yv (y_move rfl) ?_
  refine Hd.yg rfl rfl (y_move rfl) ?_
  first | (refine Hd.yg rfl rfl (y_to (y_eqlT rfl rfl) (congrArg Value.bool (decide_eq_true ((by rfl))))) ?_) | (refine Hd.yg rfl rfl (y_to (y_eql rfl rfl) (congrArg Value.bool (decide_eq_true ((by rfl))))) ?_)
  first | (refine Hd.yv (y_pickT rfl rfl) ?_) | (refine Hd.yv (y_pickF rfl rfl) ?_) | (refine Hd.yv (y_pickb rfl rfl rfl) ?_) | (refine Hd.yv (y_pick rfl rfl rfl) ?_)
  refine Hd.yv (y_move rfl) ?_
  refine Hd.yg rfl rfl (y_move rfl) ?_
  first | (refine Hd.yg rfl rfl (y_to (y_eqlT rfl rfl) (congrArg Value.bool (decide_eq_true ((by rfl))))) ?_) | (refine Hd.yg rfl rfl (y_to (y_eql rfl rfl) (congrArg Value.bool (decide_eq_true ((by rfl))))) ?_)
  first | (refine Hd.yv (y_pickT rfl rfl) ?_) | (refine Hd.yv (y_pickF rfl rfl) ?_) | (refine Hd.yv (y_pickb rfl rfl rfl) ?_) | (refine Hd.yv (y_pick rfl rfl rfl) ?_)
  refine Hd.yv (y_move rfl) ?_
  refine Hd.yg rfl rfl (y_move rfl) ?_
  first | (refine Hd.yg rfl rfl (y_to (y_eqlT rfl rfl) (congrArg Value.bool (decide_eq_true ((by rfl))))) ?_) | (refine Hd.yg rfl rfl (y_to (y_eql rfl rfl) (congrArg Value.bool (decide_eq_true ((by rfl))))) ?_)
  first | (refine Hd.yv (y_pickT rfl rfl) ?_) | (refine Hd.yv (y_pickF rfl rfl) ?_) | (refine Hd.yv (y_pickb rfl rfl rfl) ?_) | (refine Hd.yv (y_pick rfl rfl rfl) ?_)
  refine Hd.yv (y_move rfl) ?_
  refine Hd.yg rfl rfl (y_loadn (us := [.bool false, .bool false, .int .i64 17, .int .i64 0, .int .i64 0, .int .i64 0]) ag49 rfl (Rd.pt pkk (fun j v e => by rw [Nat.zero_add]; exact e)) (by exact sz49)) ?_
  refine Hd.yg rfl rfl (y_build (vs := [(2, _)]) rfl (by first | exact bd6_129 .. | kernel_rfl)) ?_
  refine Hd.yg rfl rfl (y_to (v' := .bool true) (y_eql_agg rfl rfl eqt49 rfl ⟨rfl, rfl⟩) (by rfl)) ?_
  first | (refine Hd.yv (y_pickT rfl rfl) ?_) | (refine Hd.yv (y_pickF rfl rfl) ?_) | (refine Hd.yv (y_pickb rfl rfl rfl) ?_) | (refine Hd.yv (y_pick rfl rfl rfl) ?_)
  refine Hd.yv (y_move rfl) ?_
  refine Hd.yg rfl rfl (y_move rfl) ?_
  refine Hd.unguard rfl rfl ?_
  refine Hd.callE rfl fk23 (enabled_ct _ b wb nS7.x) (Ent.sep enn) ?_
  intro _
  rw [nm_13]
  first | (refine Hd.yg rfl rfl (y_to (y_eqlT rfl rfl) (congrArg Value.bool (decide_eq_true ((by rfl))))) ?_) | (refine Hd.yg rfl rfl (y_to (y_eql rfl rfl) (congrArg Value.bool (decide_eq_true ((by rfl))))) ?_)
  first | (refine Hd.yv (y_pickT rfl rfl) ?_) | (refine Hd.yv (y_pickF rfl rfl) ?_) | (refine Hd.yv (y_pickb rfl rfl rfl) ?_) | (refine Hd.yv (y_pick rfl rfl rfl) ?_)
  refine Hd.yv (y_move rfl) ?_
  refine Hd.yg rfl rfl (y_move rfl) ?_
  first | (refine Hd.yg rfl rfl (y_to (y_eqlT rfl rfl) (congrArg Value.bool (decide_eq_true ((by rfl))))) ?_) | (refine Hd.yg rfl rfl (y_to (y_eql rfl rfl) (congrArg Value.bool (decide_eq_true ((by rfl))))) ?_)
  first | (refine Hd.yv (y_pickT rfl rfl) ?_) | (refine Hd.yv (y_pickF rfl rfl) ?_) | (refine Hd.yv (y_pickb rfl rfl rfl) ?_) | (refine Hd.yv (y_pick rfl rfl rfl) ?_)
  refine Hd.yv (y_move rfl) ?_
  refine Hd.yg rfl rfl (y_move rfl) ?_
  first | (refine Hd.yg rfl rfl (y_to (y_eqlT rfl rfl) (congrArg Value.bool (decide_eq_true ((by rfl))))) ?_) | (refine Hd.yg rfl rfl (y_to (y_eql rfl rfl) (congrArg Value.bool (decide_eq_true ((by rfl))))) ?_)
  first | (refine Hd.yv (y_pickT rfl rfl) ?_) | (refine Hd.yv (y_pickF rfl rfl) ?_) | (refine Hd.yv (y_pickb rfl rfl rfl) ?_) | (refine Hd.yv (y_pick rfl rfl rfl) ?_)
  refine Hd.yv (y_assign rfl) ?_
  refine Hd.nil ?_
  refine Hd.slots [(7, _), (12, _), (22, _), (23, _)] ⟨rfl, rfl, rfl, rfl, trivial⟩ ?_
  refine Hd.toK hK29 ?_
  refine Hd.seq (fun K30 hK30 => ?_)
  refine Hd.region ?_
  refine Hd.yv (y_move rfl) ?_
  refine Hd.unguard rfl rfl ?_
  refine Hd.callE rfl fk8 (alive_ct _) (Ent.sep enn) ?_
  intro _
  first | (refine Hd.yv (y_pickT rfl rfl) ?_) | (refine Hd.yv (y_pickF rfl rfl) ?_) | (refine Hd.yv (y_pickb rfl rfl rfl) ?_) | (refine Hd.yv (y_pick rfl rfl rfl) ?_)
  refine Hd.yv (y_move rfl) ?_
  refine Hd.yg rfl rfl (y_move rfl) ?_
  first | (refine Hd.yv (y_pickT rfl rfl) ?_) | (refine Hd.yv (y_pickF rfl rfl) ?_) | (refine Hd.yv (y_pickb rfl rfl rfl) ?_) | (refine Hd.yv (y_pick rfl rfl rfl) ?_)
  refine Hd.yv (y_move rfl) ?_
  refine Hd.yg rfl rfl (y_move rfl) ?_
  first | (refine Hd.yv (y_pickT rfl rfl) ?_) | (refine Hd.yv (y_pickF rfl rfl) ?_) | (refine Hd.yv (y_pickb rfl rfl rfl) ?_) | (refine Hd.yv (y_pick rfl rfl rfl) ?_)
  refine Hd.yv (y_move rfl) ?_
  refine Hd.yg rfl rfl (y_move rfl) ?_
  first | (refine Hd.yv (y_pickT rfl rfl) ?_) | (refine Hd.yv (y_pickF rfl rfl) ?_) | (refine Hd.yv (y_pickb rfl rfl rfl) ?_) | (refine Hd.yv (y_pick rfl rfl rfl) ?_)
  refine Hd.yv (y_move rfl) ?_
  refine Hd.yg rfl rfl (y_move rfl) ?_
  refine Hd.unguard rfl rfl ?_
  refine Hd.callE rfl fk28 (fd_nil _) (Ent.sep enn) ?_
  intro _
  first | (refine Hd.yg rfl rfl (y_to (y_eqlT rfl rfl) (congrArg Value.bool (decide_eq_true ((by rfl))))) ?_) | (refine Hd.yg rfl rfl (y_to (y_eql rfl rfl) (congrArg Value.bool (decide_eq_true ((by rfl))))) ?_)
  first | (refine Hd.yv (y_pickT rfl rfl) ?_) | (refine Hd.yv (y_pickF rfl rfl) ?_) | (refine Hd.yv (y_pickb rfl rfl rfl) ?_) | (refine Hd.yv (y_pick rfl rfl rfl) ?_)
  refine Hd.yv (y_move rfl) ?_
  refine Hd.yg rfl rfl (y_move rfl) ?_
  refine Hd.unguard rfl rfl ?_
  refine Hd.callE rfl fk26 (wants_nil _) (Ent.sep enn) ?_
  intro _
  first | (refine Hd.yg rfl rfl (y_to (y_eqlT rfl rfl) (congrArg Value.bool (decide_eq_true ((by rfl))))) ?_) | (refine Hd.yg rfl rfl (y_to (y_eql rfl rfl) (congrArg Value.bool (decide_eq_true ((by rfl))))) ?_)
  first | (refine Hd.yv (y_pickT rfl rfl) ?_) | (refine Hd.yv (y_pickF rfl rfl) ?_) | (refine Hd.yv (y_pickb rfl rfl rfl) ?_) | (refine Hd.yv (y_pick rfl rfl rfl) ?_)
  refine Hd.yv (y_move rfl) ?_
  refine Hd.yg rfl rfl (y_move rfl) ?_
  refine Hd.unguard rfl rfl ?_
  refine Hd.callE rfl fk19 (write_nil _ 0 _) (Ent.sep enn) ?_
  intro _
  first | (refine Hd.yg rfl rfl (y_to (y_eqlT rfl rfl) (congrArg Value.bool (decide_eq_true ((by rfl))))) ?_) | (refine Hd.yg rfl rfl (y_to (y_eql rfl rfl) (congrArg Value.bool (decide_eq_true ((by rfl))))) ?_)
  first | (refine Hd.yv (y_pickT rfl rfl) ?_) | (refine Hd.yv (y_pickF rfl rfl) ?_) | (refine Hd.yv (y_pickb rfl rfl rfl) ?_) | (refine Hd.yv (y_pick rfl rfl rfl) ?_)
  refine Hd.yv (y_move rfl) ?_
  refine Hd.yg rfl rfl (y_move rfl) ?_
  refine Hd.unguard rfl rfl ?_
  refine Hd.callE rfl fk16 (read_nil _ 1) (Ent.sep enn) ?_
  intro _
  refine Hd.yg rfl rfl (y_len Try.underlying39 rfl) ?_
  first | (refine Hd.yg rfl rfl (y_to (y_eqlT rfl rfl) (congrArg Value.bool (decide_eq_true ((by rfl))))) ?_) | (refine Hd.yg rfl rfl (y_to (y_eql rfl rfl) (congrArg Value.bool (decide_eq_true ((by rfl))))) ?_)
  first | (refine Hd.yv (y_pickT rfl rfl) ?_) | (refine Hd.yv (y_pickF rfl rfl) ?_) | (refine Hd.yv (y_pickb rfl rfl rfl) ?_) | (refine Hd.yv (y_pick rfl rfl rfl) ?_)
  refine Hd.yv (y_move rfl) ?_
  refine Hd.yg rfl rfl (y_move rfl) ?_
  refine Hd.unguard rfl rfl ?_
  refine Hd.callE rfl fk22 (late_nil _ 0) (Ent.sep enn) ?_
  intro _
  refine Hd.yg rfl rfl (y_build (vs := []) rfl (by first | exact bd6_181 .. | kernel_rfl)) ?_
  refine Hd.yg rfl rfl (y_to (v' := .bool true) (y_eql_agg rfl rfl eqt49 rfl ⟨rfl, rfl⟩) (by rfl)) ?_
  first | (refine Hd.yv (y_pickT rfl rfl) ?_) | (refine Hd.yv (y_pickF rfl rfl) ?_) | (refine Hd.yv (y_pickb rfl rfl rfl) ?_) | (refine Hd.yv (y_pick rfl rfl rfl) ?_)
  refine Hd.yv (y_move rfl) ?_
  refine Hd.yg rfl rfl (y_move rfl) ?_
  refine Hd.unguard rfl rfl ?_
  refine Hd.callE rfl fk18 (step_nil _ 0 6 1 1) (Ent.sep enn) ?_
  intro _
  refine Hd.yg rfl rfl (y_build (vs := []) rfl (by first | exact bd6_187 .. | kernel_rfl)) ?_
  refine Hd.yg rfl rfl (y_to (v' := .bool true) (y_eql_agg rfl rfl eqt49 rfl ⟨rfl, rfl⟩) (by rfl)) ?_
  first | (refine Hd.yv (y_pickT rfl rfl) ?_) | (refine Hd.yv (y_pickF rfl rfl) ?_) | (refine Hd.yv (y_pickb rfl rfl rfl) ?_) | (refine Hd.yv (y_pick rfl rfl rfl) ?_)
  refine Hd.yv (y_assign rfl) ?_
  refine Hd.nil ?_
  refine Hd.slots [(0, _)] ⟨rfl, trivial⟩ ?_
  refine Hd.toK hK30 ?_
  refine Hd.ret ?_
  clear hK1 hK2 hK3 hK4 hK5 hK6 hK7 hK8 hK9 hK10 hK11 hK12 hK13 hK14 hK15 hK16 hK17 hK18 hK19 hK20 hK21 hK22 hK23 hK24 hK25 hK26 hK27 hK28 hK29 hK30
  exact Hd.ret1 rfl () (by first | rfl | (simp only [*]; done) | (simp [*]; done)) (Ent.sep enn)
end Bu
end Go.Proofs.Ytmpemhbfgbochaa
namespace Go.Proofs.Ytmpemhbfgbochaa
set_option linter.unusedSimpArgs false
set_option linter.unusedVariables false
set_option linter.unnecessarySimpa false
open Go.RX Go.ChangeShapes Go.WideShapes Go.ChangeAt Go.RowKit
theorem Try.own : ownKnob Try.prog.godebug = none := by kernel_rfl
theorem Try.laidOut : laidOutB Try.prog = true := by kernel_rfl
set_option maxRecDepth 100000 in
theorem BufevNames_lifted (os : Os) (started : os.Started) (H : Type) (enc : TypeId × Value → H) :
    ReturnsInHanded {} Try.checked os 6 .any (Rows.bufevNamesSpec.pre6 enc Try.prog Try.f6 Rows.bufevNamesRow.domain false) (Rows.bufevNamesSpec.post enc Try.prog Try.f6 false true false false) := by
  refine returnsInHanded_of_change (C := Try.checked) Try.own started (by kernel_rfl) Try.func6
    (ChangeSpec.witness6 (enc := enc) (C := Try.checked) false ⟨#[], #[], []⟩ 8 (by kernel_rfl) (by kernel_rfl) (by kernel_rfl) (by kernel_rfl)) ?_
  intro W base args ds gs before hval0 hW hcnd _
  have hval : ∀ (j : Nat) t v, Try.f6.params[j]? = some t → args[j]? = some v → Value.okWide Try.prog W .any base t v := hval0
  have hW' := hW
  obtain ⟨p, q, hA0, hV, rfl, hfz, hnd⟩ := hW
  have hA : DataW.TrodAll enc Try.prog W 0 (fun _ => true) true Try.f6.params.toList args.toList ds p := hA0
  obtain ⟨rfl, rfl⟩ := trodVars_none hV
  simp only [List.append_nil] at hW'
  have hA1 := hA
  rw [Try.params6] at hA hval
  obtain ⟨hargs, rfl, rfl⟩ := trodAll_nil hA
  obtain rfl : args = #[] := by cases args; simp_all
  refine (law_calls (Bu.bnames_ct [Old W])).mono fun e W' ⟨he, hb⟩ => ?_
  subst he
  exact ⟨_, rfl, law_post Try.laidOut rfl Try.underlying4 rfl rfl (of_decide_eq_true (by kernel_rfl)) hW' hA1 hb⟩
theorem BufevNames_holds : Rows.BufevNamesSaid :=
  OpenClaim.holds_of_wide 6 Try.f6 rfl rfl rfl rfl rfl rfl rfl ⟨rfl, rfl, rfl, rfl, rfl⟩ rfl rfl rfl rfl rfl (by kernel_rfl) Try.func6 (by kernel_rfl)
    (of_decide_eq_true (by kernel_rfl)) (by unfold Func.isWrapper; first | (rw [if_pos (by decide +kernel)]; kernel_rfl) | (rw [if_neg (by decide +kernel)]; exact ⟨rfl, rfl⟩))
    (fun os started H enc _ => BufevNames_lifted os started H enc)
end Go.Proofs.Ytmpemhbfgbochaa
