/-
  Sets of deadlines: calls on none; the chapter's examples: the law CommonNames answers true.
-/
import Derived.Test.YtcnegelaenkgpaaCo9
namespace Go.Proofs.Ytcnegelaenkgpaa
set_option linter.unusedSimpArgs false
set_option linter.unusedVariables false
set_option linter.unnecessarySimpa false
open Go.RX Fx Hp
namespace Cm
set_option maxRecDepth 8000
set_option maxHeartbeats 2000000 in
theorem common_no (L : List SP) (a : Int) : Ct Try.prog 38 #[.pointer none, .int .u64 a] (L) (fun _ : Unit => .int .i64 1) (fun _ : Unit => L) := by
  refine Ct.of (vs := [.pointer none, .int .u64 a]) Try.func38 rfl rfl [(0, .pointer none), (1, .int .u64 a)] (by repeat (first | exact trivial | refine ⟨rfl, ?_⟩)) ?_
  intro E
  show Hd E 37 _ _ _ _
  refine Hd.seq (fun K1 hK1 => ?_)
  refine Hd.region ?_
  refine Hd.box rfl rfl (fun b3 => ?_)
  refine Hd.yv (y_assign rfl) ?_
  refine Hd.nil ?_
  refine Hd.slots [(0, _), (3, _)] ⟨rfl, rfl, trivial⟩ ?_
  refine Hd.toK hK1 ?_
  refine Hd.seq (fun K2 hK2 => ?_)
  refine Hd.seq (fun K3 hK3 => ?_)
  refine Hd.region ?_
  refine Hd.yv (y_move rfl) ?_
  refine Hd.callE rfl fk66 (none_nil _) (Ent.sep enn) ?_
  intro _
  refine Hd.nil ?_
  refine Hd.slots [(0, _), (3, _), (6, _)] ⟨rfl, rfl, rfl, trivial⟩ ?_
  refine Hd.toK hK3 ?_
  refine Hd.condT rfl ?_
  refine Hd.seq (fun K4 hK4 => ?_)
  refine Hd.region ?_
  refine Hd.yv (y_assign rfl) ?_
  refine Hd.nil ?_
  refine Hd.slots [(4, _)] ⟨rfl, trivial⟩ ?_
  refine Hd.toK hK4 ?_
  refine Hd.ret ?_
  refine Hd.thenRet ?_
  clear hK1 hK2 hK3 hK4
  exact Hd.ret1 rfl () (by first | rfl | (simp only [*]; done) | (simp [*]; done)) (Ent.sep enn)
set_option maxHeartbeats 2000000 in
theorem add_no (L : List SP) (id now a : Int) : Ct Try.prog 39 #[.pointer none, .int .i64 id, .int .u64 now, .int .u64 a] (L) (fun _ : Unit => .int .i64 1) (fun _ : Unit => L) := by
  refine Ct.of (vs := [.pointer none, .int .i64 id, .int .u64 now, .int .u64 a]) Try.func39 rfl rfl [(0, .pointer none), (1, .int .i64 id), (2, .int .u64 now), (3, .int .u64 a)] (by repeat (first | exact trivial | refine ⟨rfl, ?_⟩)) ?_
  intro E
  show Hd E 105 _ _ _ _
  refine Hd.seq (fun K1 hK1 => ?_)
  refine Hd.region ?_
  refine Hd.yv (y_assign rfl) ?_
  refine Hd.nil ?_
  refine Hd.slots [(0, _), (1, _), (2, _), (3, _)] ⟨rfl, rfl, rfl, rfl, trivial⟩ ?_
  refine Hd.toK hK1 ?_
  refine Hd.seq (fun K2 hK2 => ?_)
  refine Hd.block ?_
  refine Hd.seq (fun K3 hK3 => ?_)
  refine Hd.region ?_
  refine Hd.yv (y_move rfl) ?_
  refine Hd.callE rfl fk66 (none_nil _) (Ent.sep enn) ?_
  intro _
  refine Hd.yv (y_assign rfl) ?_
  refine Hd.nil ?_
  refine Hd.slots [(0, _), (1, _), (2, _), (3, _), (12, _)] ⟨rfl, rfl, rfl, rfl, rfl, trivial⟩ ?_
  refine Hd.toK hK3 ?_
  refine Hd.condT rfl ?_
  refine Hd.seq (fun K4 hK4 => ?_)
  refine Hd.region ?_
  refine Hd.yv (y_assign rfl) ?_
  refine Hd.nil ?_
  refine Hd.slots [(8, _)] ⟨rfl, trivial⟩ ?_
  refine Hd.toK hK4 ?_
  refine Hd.ret ?_
  refine Hd.inBret ?_
  refine Hd.thenRet ?_
  clear hK1 hK2 hK3 hK4
  exact Hd.ret1 rfl () (by first | rfl | (simp only [*]; done) | (simp [*]; done)) (Ent.sep enn)
set_option maxHeartbeats 2000000 in
theorem cut_no (L : List SP) (id : Int) : Ct Try.prog 40 #[.pointer none, .int .i64 id] (L) (fun _ : Unit => .bool false) (fun _ : Unit => L) := by
  refine Ct.of (vs := [.pointer none, .int .i64 id]) Try.func40 rfl rfl [(0, .pointer none), (1, .int .i64 id)] (by repeat (first | exact trivial | refine ⟨rfl, ?_⟩)) ?_
  intro E
  show Hd E 65 _ _ _ _
  refine Hd.seq (fun K1 hK1 => ?_)
  refine Hd.region ?_
  refine Hd.yv (y_assign rfl) ?_
  refine Hd.nil ?_
  refine Hd.slots [(0, _), (1, _)] ⟨rfl, rfl, trivial⟩ ?_
  refine Hd.toK hK1 ?_
  refine Hd.seq (fun K2 hK2 => ?_)
  refine Hd.seq (fun K3 hK3 => ?_)
  refine Hd.region ?_
  refine Hd.yv (y_move rfl) ?_
  refine Hd.callE rfl fk66 (none_nil _) (Ent.sep enn) ?_
  intro _
  refine Hd.yv (y_move rfl) ?_
  refine Hd.ng rfl rfl rfl ?_
  refine Hd.ng rfl rfl rfl ?_
  first | (refine Hd.yv (y_pickT rfl rfl) ?_) | (refine Hd.yv (y_pickF rfl rfl) ?_) | (refine Hd.yv (y_pickb rfl rfl rfl) ?_) | (refine Hd.yv (y_pick rfl rfl rfl) ?_)
  refine Hd.nil ?_
  refine Hd.slots [(0, _), (1, _), (14, _)] ⟨rfl, rfl, rfl, trivial⟩ ?_
  refine Hd.toK hK3 ?_
  refine Hd.condT rfl ?_
  refine Hd.seq (fun K4 hK4 => ?_)
  refine Hd.region ?_
  refine Hd.yv (y_assign rfl) ?_
  refine Hd.nil ?_
  refine Hd.slots [(4, _)] ⟨rfl, trivial⟩ ?_
  refine Hd.toK hK4 ?_
  refine Hd.ret ?_
  refine Hd.thenRet ?_
  clear hK1 hK2 hK3 hK4
  exact Hd.ret1 rfl () (by first | rfl | (simp only [*]; done) | (simp [*]; done)) (Ent.sep enn)
set_option maxHeartbeats 2000000 in
theorem top_no (L : List SP) : Ct Try.prog 43 #[.pointer none] (L) (fun _ : Unit => .tuple #[aggI z0, .bool false]) (fun _ : Unit => L) := by
  refine Ct.of (vs := [.pointer none]) Try.func43 rfl rfl [(0, .pointer none)] (by repeat (first | exact trivial | refine ⟨rfl, ?_⟩)) ?_
  intro E
  show Hd E 39 _ _ _ _
  refine Hd.seq (fun K1 hK1 => ?_)
  refine Hd.region ?_
  refine Hd.alloc zr31 (fun b2 => ?_)
  refine Hd.yv (y_assign rfl) ?_
  refine Hd.nil ?_
  refine Hd.slots [(0, _), (2, _)] ⟨rfl, rfl, trivial⟩ ?_
  refine Hd.toK hK1 ?_
  refine Hd.seq (fun K2 hK2 => ?_)
  refine Hd.seq (fun K3 hK3 => ?_)
  refine Hd.region ?_
  refine Hd.yv (y_move rfl) ?_
  refine Hd.callE rfl fk66 (none_nil _) (Ent.sep enn) ?_
  intro _
  refine Hd.nil ?_
  refine Hd.slots [(0, _), (2, _), (7, _)] ⟨rfl, rfl, rfl, trivial⟩ ?_
  refine Hd.toK hK3 ?_
  refine Hd.condT rfl ?_
  refine Hd.seq (fun K4 hK4 => ?_)
  refine Hd.region ?_
  refine Hd.yv (y_build (vs := []) rfl (by first | exact bd43_8 .. | kernel_rfl)) ?_
  refine Hd.storeA (us := Hp.encI z0) sz31 rfl rfl rfl (encI_one z0) pkk (by exact rfl) ?_
  refine Hd.yv (y_assign rfl) ?_
  refine Hd.nil ?_
  refine Hd.slots [(2, _), (3, _)] ⟨rfl, rfl, trivial⟩ ?_
  refine Hd.toK hK4 ?_
  refine Hd.ret ?_
  refine Hd.thenRet ?_
  clear hK1 hK2 hK3 hK4
  exact Hd.retCT rfl () ag31 rfl rfl (Rd.pt (us := Hp.encI z0) pkk (fun j v e => by rw [Nat.zero_add]; exact e)) (by exact sz31) rfl (Ent.sep enn)
set_option maxHeartbeats 2000000 in
theorem all_no (L : List SP) : Ct Try.prog 44 #[.pointer none] (L) (fun _ : Unit => .slice none 0 0) (fun _ : Unit => L) := by
  refine Ct.of (vs := [.pointer none]) Try.func44 rfl rfl [(0, .pointer none)] (by repeat (first | exact trivial | refine ⟨rfl, ?_⟩)) ?_
  intro E
  show Hd E 43 _ _ _ _
  refine Hd.seq (fun K1 hK1 => ?_)
  refine Hd.region ?_
  refine Hd.yv (y_assign rfl) ?_
  refine Hd.nil ?_
  refine Hd.slots [(0, _)] ⟨rfl, trivial⟩ ?_
  refine Hd.toK hK1 ?_
  refine Hd.seq (fun K2 hK2 => ?_)
  refine Hd.seq (fun K3 hK3 => ?_)
  refine Hd.region ?_
  refine Hd.yv (y_move rfl) ?_
  refine Hd.callE rfl fk66 (none_nil _) (Ent.sep enn) ?_
  intro _
  refine Hd.nil ?_
  refine Hd.slots [(0, _), (7, _)] ⟨rfl, rfl, trivial⟩ ?_
  refine Hd.toK hK3 ?_
  refine Hd.condT rfl ?_
  refine Hd.seq (fun K4 hK4 => ?_)
  refine Hd.region ?_
  refine Hd.yv (y_assign rfl) ?_
  refine Hd.nil ?_
  refine Hd.slots [(2, _)] ⟨rfl, trivial⟩ ?_
  refine Hd.toK hK4 ?_
  refine Hd.ret ?_
  refine Hd.thenRet ?_
  clear hK1 hK2 hK3 hK4
  exact Hd.ret1 rfl () (by first | rfl | (simp only [*]; done) | (simp [*]; done)) (Ent.sep enn)
set_option maxHeartbeats 2000000 in
theorem len_no (L : List SP) : Ct Try.prog 45 #[.pointer none] (L) (fun _ : Unit => .int .i64 0) (fun _ : Unit => L) := by
  refine Ct.of (vs := [.pointer none]) Try.func45 rfl rfl [(0, .pointer none)] (by repeat (first | exact trivial | refine ⟨rfl, ?_⟩)) ?_
  intro E
  show Hd E 6 _ _ _ _
  refine Hd.seq (fun K1 hK1 => ?_)
  refine Hd.region ?_
  refine Hd.yv (y_assign rfl) ?_
  refine Hd.nil ?_
  refine Hd.slots [(0, _)] ⟨rfl, trivial⟩ ?_
  refine Hd.toK hK1 ?_
  refine Hd.seq (fun K2 hK2 => ?_)
  refine Hd.region ?_
  refine Hd.yv (y_move rfl) ?_
  refine Hd.callE rfl fk44 (all_no _) (Ent.sep enn) ?_
  intro _
  refine Hd.yv (y_len Try.underlying22 rfl) ?_
  refine Hd.yv (y_assign rfl) ?_
  refine Hd.nil ?_
  refine Hd.slots [(2, _)] ⟨rfl, trivial⟩ ?_
  refine Hd.toK hK2 ?_
  refine Hd.ret ?_
  clear hK1 hK2
  exact Hd.ret1 rfl () (by first | rfl | (simp only [*]; done) | (simp [*]; done)) (Ent.sep enn)
abbrev x1 : It := ⟨1, 10, 0⟩
abbrev x2 : It := ⟨2, 13, 1⟩
abbrev x3 : It := ⟨3, 8, 2⟩
set_option maxHeartbeats 2000000 in
theorem alive_ct (L : List SP) : Ct Try.prog 36 #[] (L) (fun _ : Unit => .bool true) (fun _ : Unit => L) := by
  refine Ct.of (vs := []) Try.func36 rfl rfl [] (by repeat (first | exact trivial | refine ⟨rfl, ?_⟩)) ?_
  intro E
  show Hd E 53 _ _ _ _
  refine Hd.seq (fun K1 hK1 => ?_)
  refine Hd.region ?_
  refine Hd.yv (y_assign rfl) ?_
  refine Hd.nil ?_
  refine Hd.slots [] trivial ?_
  refine Hd.toK hK1 ?_
  refine Hd.seq (fun K2 hK2 => ?_)
  refine Hd.region ?_
  refine Hd.callE rfl fk37 (new_ct _) (Ent.sep enn) ?_
  intro o
  refine Hd.yv (y_assign rfl) ?_
  refine Hd.nil ?_
  refine Hd.slots [(1, _)] ⟨rfl, trivial⟩ ?_
  refine Hd.toK hK2 ?_
  refine Hd.seq (fun K3 hK3 => ?_)
  refine Hd.region ?_
  refine Hd.yv (y_move rfl) ?_
  refine Hd.callE rfl fk38 (common_ct _ o [] [] 0 10) (Ent.sep enn) ?_
  intro _
  rw [show mkS [] 10 = [⟨10, []⟩] by decide +kernel]
  refine Hd.nil ?_
  refine Hd.slots [(1, _)] ⟨rfl, trivial⟩ ?_
  refine Hd.toK hK3 ?_
  refine Hd.seq (fun K4 hK4 => ?_)
  refine Hd.region ?_
  refine Hd.yv (y_move rfl) ?_
  refine Hd.callE rfl fk39 (add_ct _ o [⟨10, []⟩] [] 0 (by decide) (by decide) 1 0 10 (by simp [InK]) (by simp [InK])) (Ent.sep enn) ?_
  intro _
  rw [show addQ [⟨10, []⟩] 1 0 10 0 = [⟨10, [x1]⟩] by decide +kernel, show addS [] 1 0 10 0 = [x1] by decide +kernel, show addN 1 0 = 1 by decide +kernel]
  refine Hd.nil ?_
  refine Hd.slots [(1, _)] ⟨rfl, trivial⟩ ?_
  refine Hd.toK hK4 ?_
  refine Hd.seq (fun K5 hK5 => ?_)
  refine Hd.region ?_
  refine Hd.yv (y_move rfl) ?_
  refine Hd.callE rfl fk39 (add_ct _ o [⟨10, [x1]⟩] [x1] 1 (by decide) (by decide) 2 3 10 (by simp [InK]) (by simp [InK])) (Ent.sep enn) ?_
  intro _
  rw [show addQ [⟨10, [x1]⟩] 2 3 10 1 = [⟨10, [x1, x2]⟩] by decide +kernel, show addS [x1] 2 3 10 1 = [x1, x2] by decide +kernel, show addN 2 1 = 2 by decide +kernel]
  refine Hd.nil ?_
  refine Hd.slots [(1, _)] ⟨rfl, trivial⟩ ?_
  refine Hd.toK hK5 ?_
  refine Hd.seq (fun K6 hK6 => ?_)
  refine Hd.region ?_
  refine Hd.yv (y_move rfl) ?_
  refine Hd.callE rfl fk39 (add_ct _ o [⟨10, [x1, x2]⟩] [x1, x2] 2 (by decide) (by decide) 3 3 5 (by simp [InK]) (by simp [InK])) (Ent.sep enn) ?_
  intro _
  rw [show addQ [⟨10, [x1, x2]⟩] 3 3 5 2 = [⟨10, [x1, x2]⟩] by decide +kernel, show addS [x1, x2] 3 3 5 2 = [x3, x1, x2] by decide +kernel, show addN 3 2 = 3 by decide +kernel]
  refine Hd.nil ?_
  refine Hd.slots [(1, _)] ⟨rfl, trivial⟩ ?_
  refine Hd.toK hK6 ?_
  refine Hd.seq (fun K7 hK7 => ?_)
  refine Hd.region ?_
  refine Hd.yv (y_move rfl) ?_
  refine Hd.callE rfl fk43 (ctop_ct _ o [⟨10, [x1, x2]⟩] [x3, x1, x2] 3) (Ent.sep enn) ?_
  intro _
  refine Hd.yv (y_move rfl) ?_
  refine Hd.yv (y_extract rfl rfl) ?_
  refine Hd.yv (y_extract rfl rfl) ?_
  refine Hd.alloc zr31 (fun b2 => ?_)
  refine Hd.storeA (us := Hp.encI x3) sz31 rfl rfl rfl (encI_one _) pkk (by exact rfl) ?_
  refine Hd.yv (y_assign rfl) ?_
  refine Hd.nil ?_
  refine Hd.slots [(1, _), (2, _), (3, _)] ⟨rfl, rfl, rfl, trivial⟩ ?_
  refine Hd.toK hK7 ?_
  refine Hd.seq (fun K8 hK8 => ?_)
  refine Hd.region ?_
  refine Hd.yv (y_move rfl) ?_
  refine Hd.callE rfl fk46 (cheap_ct _ o [⟨10, [x1, x2]⟩] [x3, x1, x2] 3) (Ent.sep enn) ?_
  intro _
  rw [show cnt [⟨10, [x1, x2]⟩] [x3, x1, x2] = 2 by decide +kernel]
  refine Hd.yv (y_assign rfl) ?_
  refine Hd.nil ?_
  refine Hd.slots [(1, _), (2, _), (3, _), (4, _)] ⟨rfl, rfl, rfl, rfl, trivial⟩ ?_
  refine Hd.toK hK8 ?_
  refine Hd.seq (fun K9 hK9 => ?_)
  refine Hd.region ?_
  refine Hd.yv (y_move rfl) ?_
  refine Hd.callE rfl fk41 (cdue_ct _ o [⟨10, [x1, x2]⟩] [x3, x1, x2] 3 (by decide) 11) (Ent.sep enn) ?_
  rintro ⟨ad, cap⟩
  dsimp only
  rw [show dueI 11 [x3, x1, x2] = [x3, x1] by decide +kernel]
  refine Hd.yv (y_assign rfl) ?_
  refine Hd.nil ?_
  refine Hd.slots [(2, _), (3, _), (4, _), (5, _)] ⟨rfl, rfl, rfl, rfl, trivial⟩ ?_
  refine Hd.toK hK9 ?_
  refine Hd.seq (fun K10 hK10 => ?_)
  refine Hd.region ?_
  refine Hd.yv (y_move rfl) ?_
  refine Hd.yv (y_move rfl) ?_
  refine Hd.yg rfl rfl (y_loadn (us := Hp.encI x3) ag31 rfl (Rd.pt pkk (fun j v e => by rw [Nat.zero_add]; exact e)) (by exact sz31)) ?_
  refine Hd.yg rfl rfl (y_build (vs := [(0, _), (1, _), (2, _)]) rfl (by first | exact bd36_27 .. | kernel_rfl)) ?_
  refine Hd.yg rfl rfl (y_to (v' := .bool true) (y_eql_agg rfl rfl eqt31 rfl ⟨rfl, rfl⟩) (by rfl)) ?_
  first | (refine Hd.yv (y_pickT rfl rfl) ?_) | (refine Hd.yv (y_pickF rfl rfl) ?_) | (refine Hd.yv (y_pickb rfl rfl rfl) ?_) | (refine Hd.yv (y_pick rfl rfl rfl) ?_)
  refine Hd.yv (y_move rfl) ?_
  refine Hd.yg rfl rfl (y_move rfl) ?_
  first | (refine Hd.yg rfl rfl (y_eqlT rfl rfl) ?_) | (refine Hd.yg rfl rfl (y_eql rfl rfl) ?_)
  first | (refine Hd.yv (y_pickT rfl rfl) ?_) | (refine Hd.yv (y_pickF rfl rfl) ?_) | (refine Hd.yv (y_pickb rfl rfl rfl) ?_) | (refine Hd.yv (y_pick rfl rfl rfl) ?_)
  refine Hd.yv (y_move rfl) ?_
  refine Hd.yg rfl rfl (y_move rfl) ?_
  refine Hd.yg rfl rfl (y_len Try.underlying22 rfl) ?_
  first | (refine Hd.yg rfl rfl (y_eqlT rfl rfl) ?_) | (refine Hd.yg rfl rfl (y_eql rfl rfl) ?_)
  first | (refine Hd.yv (y_pickT rfl rfl) ?_) | (refine Hd.yv (y_pickF rfl rfl) ?_) | (refine Hd.yv (y_pickb rfl rfl rfl) ?_) | (refine Hd.yv (y_pick rfl rfl rfl) ?_)
  refine Hd.yv (y_move rfl) ?_
  refine Hd.yg rfl rfl (y_move rfl) ?_
  first | (refine Hd.yg rfl rfl (y_idxS Try.underlying22 sz31 rfl rfl (by first | exact (show (0 : Nat) < _ by omega) | omega | decide)) ?_) | (refine Hd.yg rfl rfl (y_idxR Try.underlying22 sz31 rfl rfl (by first | exact (show (0 : Nat) < _ by omega) | omega | decide) (by (first | exact RdS.own pkk))) ?_)
  first | (refine Hd.yg rfl rfl (y_field' (q := 0) (ft := 3) Try.underlying31 rfl sz3 rfl rfl) ?_) | (refine Hd.yg rfl rfl (y_fieldR (q := 0) (ft := 3) Try.underlying31 rfl sz3 rfl rfl) ?_)
  first | (refine Hd.yg rfl rfl (y_load1 ag3 rfl (Rd.pt1 pkk (by (first | rfl)))) ?_) | (refine Hd.yg rfl rfl (y_load1 ag3 rfl (Rd.seg1 pkk (by (first | rfl)))) ?_) | (refine Hd.yg rfl rfl (y_loadR1 ag3 rfl (by (first | exact RdS.own pkk)) (by (first | rfl))) ?_)
  first | (refine Hd.yg rfl rfl (y_eqlT rfl rfl) ?_) | (refine Hd.yg rfl rfl (y_eql rfl rfl) ?_)
  first | (refine Hd.yv (y_pickT rfl rfl) ?_) | (refine Hd.yv (y_pickF rfl rfl) ?_) | (refine Hd.yv (y_pickb rfl rfl rfl) ?_) | (refine Hd.yv (y_pick rfl rfl rfl) ?_)
  refine Hd.yv (y_move rfl) ?_
  refine Hd.yg rfl rfl (y_move rfl) ?_
  first | (refine Hd.yg rfl rfl (y_idxS Try.underlying22 sz31 rfl rfl (by first | exact (show (1 : Nat) < _ by omega) | omega | decide)) ?_) | (refine Hd.yg rfl rfl (y_idxR Try.underlying22 sz31 rfl rfl (by first | exact (show (1 : Nat) < _ by omega) | omega | decide) (by (first | exact RdS.own pkk))) ?_)
  refine Hd.yg rfl rfl (y_loadRn (vs := [_, _, _]) ag31 rfl (RdS.own pkk) (flat_cells Hp.encI 3 (fun _ => rfl) (show [x3, x1][1]? = some x1 from rfl)) (by exact sz31) (by simp)) ?_
  refine Hd.yg rfl rfl (y_build (vs := [(0, _), (1, _)]) rfl (by first | exact bd36_50 .. | kernel_rfl)) ?_
  refine Hd.yg rfl rfl (y_to (v' := .bool true) (y_eql_agg rfl rfl eqt31 rfl ⟨rfl, rfl⟩) (by rfl)) ?_
  first | (refine Hd.yv (y_pickT rfl rfl) ?_) | (refine Hd.yv (y_pickF rfl rfl) ?_) | (refine Hd.yv (y_pickb rfl rfl rfl) ?_) | (refine Hd.yv (y_pick rfl rfl rfl) ?_)
  refine Hd.yv (y_assign rfl) ?_
  refine Hd.nil ?_
  refine Hd.slots [(0, _)] ⟨rfl, trivial⟩ ?_
  refine Hd.toK hK10 ?_
  refine Hd.ret ?_
  clear hK1 hK2 hK3 hK4 hK5 hK6 hK7 hK8 hK9 hK10
  exact Hd.ret1 rfl () (by first | rfl | (simp only [*]; done) | (simp [*]; done)) (Ent.sep enn)
abbrev y2 : It := ⟨2, 30, 1⟩
abbrev y7 : It := ⟨7, 18446744073709551615, 2⟩
def qN (i : Nat) : List Q := ⟨10, [y2]⟩ :: (List.range i).map fun (k : Nat) => (⟨100 + (k : Int), []⟩ : Q)
theorem qN_step : ∀ i, i < 31 → mkS (qN i) (100 + i) = qN (i + 1) := by
  have : ∀ i : Fin 31, mkS (qN i.1) (100 + i.1) = qN (i.1 + 1) := by decide +kernel
  exact fun i h => this ⟨i, h⟩
set_option maxHeartbeats 2000000 in
theorem names_ct (L : List SP) : Ct Try.prog 13 #[] (L) (fun _ : Unit => .bool true) (fun _ : Unit => L) := by
  refine Ct.of (vs := []) Try.func13 rfl rfl [] (by repeat (first | exact trivial | refine ⟨rfl, ?_⟩)) ?_
  intro E
  show Hd E 125 _ _ _ _
  refine Hd.seq (fun K1 hK1 => ?_)
  refine Hd.region ?_
  refine Hd.yv (y_assign rfl) ?_
  refine Hd.nil ?_
  refine Hd.slots [] trivial ?_
  refine Hd.toK hK1 ?_
  refine Hd.seq (fun K2 hK2 => ?_)
  refine Hd.region ?_
  refine Hd.callE rfl fk37 (new_ct _) (Ent.sep enn) ?_
  intro o
  refine Hd.yv (y_assign rfl) ?_
  refine Hd.nil ?_
  refine Hd.slots [(1, _)] ⟨rfl, trivial⟩ ?_
  refine Hd.toK hK2 ?_
  refine Hd.seq (fun K3 hK3 => ?_)
  refine Hd.region ?_
  refine Hd.yv (y_move rfl) ?_
  refine Hd.callE rfl fk38 (common_ct _ o [] [] 0 10) (Ent.sep enn) ?_
  intro _
  rw [show mkS [] 10 = [⟨10, []⟩] by decide +kernel, show mkV [] 10 = 0 by decide +kernel]
  refine Hd.yv (y_assign rfl) ?_
  refine Hd.nil ?_
  refine Hd.slots [(1, _), (2, _)] ⟨rfl, rfl, trivial⟩ ?_
  refine Hd.toK hK3 ?_
  refine Hd.seq (fun K4 hK4 => ?_)
  refine Hd.region ?_
  refine Hd.yv (y_move rfl) ?_
  refine Hd.callE rfl fk39 (add_ct _ o [⟨10, []⟩] [] 0 (by decide) (by decide) 2 3 10 (by simp [InK]) (by simp [InK])) (Ent.sep enn) ?_
  intro _
  rw [show addQ [⟨10, []⟩] 2 3 10 0 = [⟨10, [⟨2, 13, 0⟩]⟩] by decide +kernel, show addS [] 2 3 10 0 = [⟨2, 13, 0⟩] by decide +kernel, show addN 2 0 = 1 by decide +kernel]
  refine Hd.nil ?_
  refine Hd.slots [(1, _), (2, _)] ⟨rfl, rfl, trivial⟩ ?_
  refine Hd.toK hK4 ?_
  refine Hd.seq (fun K5 hK5 => ?_)
  refine Hd.region ?_
  refine Hd.yv (y_move rfl) ?_
  refine Hd.callE rfl fk39 (add_ct _ o [⟨10, [⟨2, 13, 0⟩]⟩] [⟨2, 13, 0⟩] 1 (by decide) (by decide) 2 20 10 (by simp [InK]) (by simp [InK])) (Ent.sep enn) ?_
  intro _
  rw [show addQ [⟨10, [⟨2, 13, 0⟩]⟩] 2 20 10 1 = [⟨10, [y2]⟩] by decide +kernel, show addS [⟨2, 13, 0⟩] 2 20 10 1 = [y2] by decide +kernel, show addN 2 1 = 2 by decide +kernel]
  refine Hd.nil ?_
  refine Hd.slots [(1, _), (2, _)] ⟨rfl, rfl, trivial⟩ ?_
  refine Hd.toK hK5 ?_
  refine Hd.seq (fun K6 hK6 => ?_)
  refine Hd.region ?_
  refine Hd.yv (y_move rfl) ?_
  refine Hd.callE rfl fk44 (call_ct _ o [⟨10, [y2]⟩] [y2] 2) (Ent.sep enn) ?_
  rintro ⟨al, cl⟩
  dsimp only
  refine Hd.yv (y_assign rfl) ?_
  refine Hd.nil ?_
  refine Hd.slots [(1, _), (2, _), (3, _)] ⟨rfl, rfl, rfl, trivial⟩ ?_
  refine Hd.toK hK6 ?_
  refine Hd.seq (fun K7 hK7 => ?_)
  refine Hd.region ?_
  refine Hd.yv (y_move rfl) ?_
  refine Hd.callE rfl fk38 (common_ct _ o [⟨10, [y2]⟩] [y2] 2 10) (Ent.sep enn) ?_
  intro _
  rw [show mkS [⟨10, [y2]⟩] 10 = [⟨10, [y2]⟩] by decide +kernel, show mkV [⟨10, [y2]⟩] 10 = 90 by decide +kernel]
  refine Hd.yv (y_assign rfl) ?_
  refine Hd.nil ?_
  refine Hd.slots [(1, _), (2, _), (3, _), (4, _)] ⟨rfl, rfl, rfl, rfl, trivial⟩ ?_
  refine Hd.toK hK7 ?_
  refine Hd.seq (fun K8 hK8 => ?_)
  refine Hd.region ?_
  refine Hd.yv (y_move rfl) ?_
  refine Hd.callE rfl fk38 (common_ct _ o [⟨10, [y2]⟩] [y2] 2 18446744073709551615) (Ent.sep enn) ?_
  intro _
  rw [show mkS [⟨10, [y2]⟩] 18446744073709551615 = [⟨10, [y2]⟩] by decide +kernel, show mkV [⟨10, [y2]⟩] 18446744073709551615 = 90 by decide +kernel]
  refine Hd.yv (y_assign rfl) ?_
  refine Hd.nil ?_
  refine Hd.slots [(1, _), (2, _), (3, _), (4, _), (5, _)] ⟨rfl, rfl, rfl, rfl, rfl, trivial⟩ ?_
  refine Hd.toK hK8 ?_
  refine Hd.seq (fun K9 hK9 => ?_)
  refine Hd.region ?_
  refine Hd.yv (y_move rfl) ?_
  refine Hd.callE rfl fk39 (add_ct _ o [⟨10, [y2]⟩] [y2] 2 (by decide) (by decide) (-1) 0 0 (by simp [InK]) (by simp [InK])) (Ent.sep enn) ?_
  intro _
  rw [show addQ [⟨10, [y2]⟩] (-1) 0 0 2 = [⟨10, [y2]⟩] by decide +kernel, show addS [y2] (-1) 0 0 2 = [y2] by decide +kernel, show addN (-1) 2 = 2 by decide +kernel, show addV (-1) = 2 by decide +kernel]
  refine Hd.yv (y_assign rfl) ?_
  refine Hd.nil ?_
  refine Hd.slots [(1, _), (2, _), (3, _), (4, _), (5, _), (6, _)] ⟨rfl, rfl, rfl, rfl, rfl, rfl, trivial⟩ ?_
  refine Hd.toK hK9 ?_
  refine Hd.seq (fun K10 hK10 => ?_)
  refine Hd.seq (fun K11 hK11 => ?_)
  refine Hd.region ?_
  refine Hd.yv (y_assign rfl) ?_
  refine Hd.nil ?_
  refine Hd.slots [(1, _), (2, _), (3, _), (4, _), (5, _), (6, _), (7, _)] ⟨rfl, rfl, rfl, rfl, rfl, rfl, rfl, trivial⟩ ?_
  refine Hd.toK hK11 ?_
  refine Hd.block ?_
  rw [show ([⟨10, [y2]⟩] : List Q) = qN 0 from rfl]
  refine Hd.loopK (ι := Nat) [(1, _), (2, _), (3, _), (4, _), (5, _), (6, _)] (fun i => [(7, .int .u64 (100 + (i : Int)))]) (fun i => pu (i ≤ 31) :: OwI al [y2].length cl [y2] :: CoA o (qN i) [y2] 2 :: L) (fun i => 31 - i) 0 (by repeat (first | exact trivial | refine ⟨rfl, ?_⟩)) (by repeat (first | exact trivial | refine ⟨rfl, ?_⟩)) (Ent.sep (.pure (by first | omega | (simp; done) | (simp; omega) | exact ⟨by simp, by simp⟩) enn)) ?_
  intro i
  try dsimp only
  refine Hd.pure (fun hp0 => ?_)
  try dsimp only at hp0
  refine Hd.seq (fun K12 hK12 => ?_)
  refine Hd.seq (fun K13 hK13 => ?_)
  refine Hd.region ?_
  refine Hd.yv (y_move rfl) ?_
  refine Hd.yv (y_lss rfl rfl) ?_
  refine Hd.nil ?_
  refine Hd.slots [(1, _), (2, _), (3, _), (4, _), (5, _), (6, _), (7, _), (30, _)] ⟨rfl, rfl, rfl, rfl, rfl, rfl, rfl, rfl, trivial⟩ ?_
  refine Hd.toK hK13 ?_
  refine Hd.cond rfl (fun hc0 => ?_) (fun hc0 => ?_)
  ·
    try simp only [decide_eq_true_eq, decide_eq_false_iff_not, Bool.and_eq_true, Bool.or_eq_true, Bool.and_eq_false_iff, Bool.or_eq_false_iff, Bool.not_eq_true', Bool.not_eq_false', Bool.not_eq_true, Bool.not_eq_false, Int.not_lt, Int.not_le, Decidable.not_not, ne_eq] at hc0
    have hi : i < 31 := by omega
    refine Hd.skip ?_
    refine Hd.toK hK12 ?_
    refine Hd.seq (fun K14 hK14 => ?_)
    refine Hd.block ?_
    refine Hd.region ?_
    refine Hd.yv (y_move rfl) ?_
    refine Hd.yv (y_move rfl) ?_
    refine Hd.callE rfl fk38 (common_ct _ o (qN i) [y2] 2 (100 + i)) (Ent.sep enn) ?_
    intro _
    rw [qN_step i hi]
    refine Hd.nil ?_
    refine Hd.slots [(1, _), (2, _), (3, _), (4, _), (5, _), (6, _), (7, _)] ⟨rfl, rfl, rfl, rfl, rfl, rfl, rfl, trivial⟩ ?_
    refine Hd.inB ?_
    refine Hd.toK hK14 ?_
    refine Hd.region ?_
    refine Hd.yv (y_move rfl) ?_
    first | (refine Hd.yv (y_addn rfl rfl (by simp only [InK]; omega)) ?_) | (refine Hd.yv (y_add rfl rfl) ?_)
    refine Hd.yv (y_assign rfl) ?_
    refine Hd.nil ?_
    refine Hd.slots [(1, _), (2, _), (3, _), (4, _), (5, _), (6, _), (7, _)] ⟨rfl, rfl, rfl, rfl, rfl, rfl, rfl, trivial⟩ ?_
    clear hK1 hK2 hK3 hK4 hK5 hK6 hK7 hK8 hK9 hK10 hK11 hK12 hK13 hK14
    refine Hd.thenN ?_
    exact Hd.again (i + 1) (by first | omega | (simp only; omega) | (simp; omega)) (by repeat (first | exact trivial | refine ⟨rfl, ?_⟩)) (Ent.sep (.pure (by first | omega | (simp; done) | (simp; omega) | (dsimp only; omega)) enn))
  ·
    try simp only [decide_eq_true_eq, decide_eq_false_iff_not, Bool.and_eq_true, Bool.or_eq_true, Bool.and_eq_false_iff, Bool.or_eq_false_iff, Bool.not_eq_true', Bool.not_eq_false', Bool.not_eq_true, Bool.not_eq_false, Int.not_lt, Int.not_le, Decidable.not_not, ne_eq] at hc0
    obtain rfl : i = 31 := by omega
    refine Hd.exit ?_
    refine Hd.thenExit ?_
    refine Hd.thenExit ?_
    refine Hd.inBexit ?_
    refine Hd.toK hK10 ?_
    refine Hd.seq (fun K15 hK15 => ?_)
    refine Hd.region ?_
    refine Hd.yv (y_move rfl) ?_
    refine Hd.callE rfl fk38 (common_ct _ o (qN 31) [y2] 2 500) (Ent.sep enn) ?_
    intro _
    rw [show mkS (qN 31) 500 = qN 31 by decide +kernel, show mkV (qN 31) 500 = 90 by decide +kernel]
    refine Hd.yv (y_assign rfl) ?_
    refine Hd.nil ?_
    refine Hd.slots [(1, _), (2, _), (3, _), (4, _), (5, _), (6, _), (8, _)] ⟨rfl, rfl, rfl, rfl, rfl, rfl, rfl, trivial⟩ ?_
    refine Hd.toK hK15 ?_
    refine Hd.seq (fun K16 hK16 => ?_)
    refine Hd.region ?_
    refine Hd.yv (y_move rfl) ?_
    refine Hd.callE rfl fk39 (add_ct _ o (qN 31) [y2] 2 (by decide) (by decide) 7 5 18446744073709551615 (by simp [InK]) (by simp [InK])) (Ent.sep enn) ?_
    intro _
    rw [show addQ (qN 31) 7 5 18446744073709551615 2 = qN 31 by decide +kernel, show addS [y2] 7 5 18446744073709551615 2 = [y2, y7] by decide +kernel, show addN 7 2 = 3 by decide +kernel]
    refine Hd.nil ?_
    refine Hd.slots [(1, _), (2, _), (3, _), (4, _), (5, _), (6, _), (8, _)] ⟨rfl, rfl, rfl, rfl, rfl, rfl, rfl, trivial⟩ ?_
    refine Hd.toK hK16 ?_
    refine Hd.seq (fun K17 hK17 => ?_)
    refine Hd.region ?_
    refine Hd.yv (y_move rfl) ?_
    refine Hd.callE rfl fk52 (cfind_ct _ o (qN 31) [y2, y7] 3 7) (Ent.sep enn) ?_
    intro _
    rw [show findI 7 [y2, y7] = some y7 by decide +kernel]
    refine Hd.yv (y_move rfl) ?_
    refine Hd.yv (y_extract rfl rfl) ?_
    refine Hd.yv (y_extract rfl rfl) ?_
    refine Hd.alloc zr31 (fun b9 => ?_)
    refine Hd.storeA (us := Hp.encI y7) sz31 rfl rfl rfl (encI_one _) pkk (by exact rfl) ?_
    refine Hd.yv (y_assign rfl) ?_
    refine Hd.nil ?_
    refine Hd.slots [(1, _), (2, _), (3, _), (4, _), (5, _), (6, _), (8, _), (9, _), (10, _)] ⟨rfl, rfl, rfl, rfl, rfl, rfl, rfl, rfl, rfl, trivial⟩ ?_
    refine Hd.toK hK17 ?_
    refine Hd.seq (fun K18 hK18 => ?_)
    refine Hd.region ?_
    refine Hd.yv (y_assign rfl) ?_
    refine Hd.nil ?_
    refine Hd.slots [(1, _), (2, _), (3, _), (4, _), (5, _), (6, _), (8, _), (9, _), (10, _), (11, _)] ⟨rfl, rfl, rfl, rfl, rfl, rfl, rfl, rfl, rfl, rfl, trivial⟩ ?_
    refine Hd.toK hK18 ?_
    refine Hd.seq (fun K19 hK19 => ?_)
    refine Hd.region ?_
    refine Hd.yv (y_move rfl) ?_
    refine Hd.callE rfl fk43 (top_no _) (Ent.sep enn) ?_
    intro _
    refine Hd.yv (y_move rfl) ?_
    refine Hd.yv (y_extract rfl rfl) ?_
    refine Hd.yv (y_extract rfl rfl) ?_
    refine Hd.alloc zr31 (fun b12 => ?_)
    refine Hd.storeA (us := Hp.encI z0) sz31 rfl rfl rfl (encI_one _) pkk (by exact rfl) ?_
    refine Hd.yv (y_assign rfl) ?_
    refine Hd.nil ?_
    refine Hd.slots [(1, _), (2, _), (3, _), (4, _), (5, _), (6, _), (8, _), (9, _), (10, _), (11, _), (13, _)] ⟨rfl, rfl, rfl, rfl, rfl, rfl, rfl, rfl, rfl, rfl, rfl, trivial⟩ ?_
    refine Hd.toK hK19 ?_
    refine Hd.seq (fun K20 hK20 => ?_)
    refine Hd.region ?_
    refine Hd.callE rfl fk36 (alive_ct _) (Ent.sep enn) ?_
    intro _
    refine Hd.yv (y_move rfl) ?_
    first | (refine Hd.yv (y_pickT rfl rfl) ?_) | (refine Hd.yv (y_pickF rfl rfl) ?_) | (refine Hd.yv (y_pickb rfl rfl rfl) ?_) | (refine Hd.yv (y_pick rfl rfl rfl) ?_)
    refine Hd.yv (y_move rfl) ?_
    first | (refine Hd.yv (y_pickT rfl rfl) ?_) | (refine Hd.yv (y_pickF rfl rfl) ?_) | (refine Hd.yv (y_pickb rfl rfl rfl) ?_) | (refine Hd.yv (y_pick rfl rfl rfl) ?_)
    refine Hd.yv (y_move rfl) ?_
    refine Hd.yg rfl rfl (y_move rfl) ?_
    first | (refine Hd.yg rfl rfl (y_eqlT rfl rfl) ?_) | (refine Hd.yg rfl rfl (y_eql rfl rfl) ?_)
    first | (refine Hd.yv (y_pickT rfl rfl) ?_) | (refine Hd.yv (y_pickF rfl rfl) ?_) | (refine Hd.yv (y_pickb rfl rfl rfl) ?_) | (refine Hd.yv (y_pick rfl rfl rfl) ?_)
    refine Hd.yv (y_move rfl) ?_
    refine Hd.yg rfl rfl (y_move rfl) ?_
    refine Hd.yg rfl rfl (y_len Try.underlying22 rfl) ?_
    first | (refine Hd.yg rfl rfl (y_eqlT rfl rfl) ?_) | (refine Hd.yg rfl rfl (y_eql rfl rfl) ?_)
    first | (refine Hd.yv (y_pickT rfl rfl) ?_) | (refine Hd.yv (y_pickF rfl rfl) ?_) | (refine Hd.yv (y_pickb rfl rfl rfl) ?_) | (refine Hd.yv (y_pick rfl rfl rfl) ?_)
    refine Hd.yv (y_move rfl) ?_
    refine Hd.yg rfl rfl (y_move rfl) ?_
    first | (refine Hd.yg rfl rfl (y_idxS Try.underlying22 sz31 rfl rfl (by first | exact (show (0 : Nat) < _ by omega) | omega | decide)) ?_) | (refine Hd.yg rfl rfl (y_idxR Try.underlying22 sz31 rfl rfl (by first | exact (show (0 : Nat) < _ by omega) | omega | decide) (by (first | exact RdS.own pkk))) ?_)
    first | (refine Hd.yg rfl rfl (y_field' (q := 1) (ft := 29) Try.underlying31 rfl sz29 rfl rfl) ?_) | (refine Hd.yg rfl rfl (y_fieldR (q := 1) (ft := 29) Try.underlying31 rfl sz29 rfl rfl) ?_)
    first | (refine Hd.yg rfl rfl (y_load1 ag29 rfl (Rd.pt1 pkk (by (first | rfl)))) ?_) | (refine Hd.yg rfl rfl (y_load1 ag29 rfl (Rd.seg1 pkk (by (first | rfl)))) ?_) | (refine Hd.yg rfl rfl (y_loadR1 ag29 rfl (by (first | exact RdS.own pkk)) (by (first | rfl))) ?_)
    first | (refine Hd.yg rfl rfl (y_eqlT rfl rfl) ?_) | (refine Hd.yg rfl rfl (y_eql rfl rfl) ?_)
    first | (refine Hd.yv (y_pickT rfl rfl) ?_) | (refine Hd.yv (y_pickF rfl rfl) ?_) | (refine Hd.yv (y_pickb rfl rfl rfl) ?_) | (refine Hd.yv (y_pick rfl rfl rfl) ?_)
    refine Hd.yv (y_move rfl) ?_
    refine Hd.yg rfl rfl (y_move rfl) ?_
    first | (refine Hd.yg rfl rfl (y_eqlT rfl rfl) ?_) | (refine Hd.yg rfl rfl (y_eql rfl rfl) ?_)
    first | (refine Hd.yv (y_pickT rfl rfl) ?_) | (refine Hd.yv (y_pickF rfl rfl) ?_) | (refine Hd.yv (y_pickb rfl rfl rfl) ?_) | (refine Hd.yv (y_pick rfl rfl rfl) ?_)
    refine Hd.yv (y_move rfl) ?_
    refine Hd.yg rfl rfl (y_move rfl) ?_
    first | (refine Hd.yg rfl rfl (y_eqlT rfl rfl) ?_) | (refine Hd.yg rfl rfl (y_eql rfl rfl) ?_)
    first | (refine Hd.yv (y_pickT rfl rfl) ?_) | (refine Hd.yv (y_pickF rfl rfl) ?_) | (refine Hd.yv (y_pickb rfl rfl rfl) ?_) | (refine Hd.yv (y_pick rfl rfl rfl) ?_)
    refine Hd.yv (y_move rfl) ?_
    refine Hd.yg rfl rfl (y_move rfl) ?_
    first | (refine Hd.yg rfl rfl (y_eqlT rfl rfl) ?_) | (refine Hd.yg rfl rfl (y_eql rfl rfl) ?_)
    first | (refine Hd.yv (y_pickT rfl rfl) ?_) | (refine Hd.yv (y_pickF rfl rfl) ?_) | (refine Hd.yv (y_pickb rfl rfl rfl) ?_) | (refine Hd.yv (y_pick rfl rfl rfl) ?_)
    refine Hd.yv (y_move rfl) ?_
    refine Hd.yg rfl rfl (y_move rfl) ?_
    first | (refine Hd.yg rfl rfl (y_eqlT rfl rfl) ?_) | (refine Hd.yg rfl rfl (y_eql rfl rfl) ?_)
    first | (refine Hd.yv (y_pickT rfl rfl) ?_) | (refine Hd.yv (y_pickF rfl rfl) ?_) | (refine Hd.yv (y_pickb rfl rfl rfl) ?_) | (refine Hd.yv (y_pick rfl rfl rfl) ?_)
    refine Hd.yv (y_move rfl) ?_
    refine Hd.yg rfl rfl (y_move rfl) ?_
    first | (refine Hd.yv (y_pickT rfl rfl) ?_) | (refine Hd.yv (y_pickF rfl rfl) ?_) | (refine Hd.yv (y_pickb rfl rfl rfl) ?_) | (refine Hd.yv (y_pick rfl rfl rfl) ?_)
    refine Hd.yv (y_move rfl) ?_
    first | (refine Hd.yg rfl rfl (y_field' (q := 1) (ft := 29) Try.underlying31 rfl sz29 rfl rfl) ?_) | (refine Hd.yg rfl rfl (y_fieldR (q := 1) (ft := 29) Try.underlying31 rfl sz29 rfl rfl) ?_)
    first | (refine Hd.yg rfl rfl (y_load1 ag29 rfl (Rd.pt1 pkk (by (first | rfl)))) ?_) | (refine Hd.yg rfl rfl (y_load1 ag29 rfl (Rd.seg1 pkk (by (first | rfl)))) ?_) | (refine Hd.yg rfl rfl (y_loadR1 ag29 rfl (by (first | exact RdS.own pkk)) (by (first | rfl))) ?_)
    first | (refine Hd.yg rfl rfl (y_eqlT rfl rfl) ?_) | (refine Hd.yg rfl rfl (y_eql rfl rfl) ?_)
    first | (refine Hd.yv (y_pickT rfl rfl) ?_) | (refine Hd.yv (y_pickF rfl rfl) ?_) | (refine Hd.yv (y_pickb rfl rfl rfl) ?_) | (refine Hd.yv (y_pick rfl rfl rfl) ?_)
    refine Hd.yv (y_move rfl) ?_
    refine Hd.yg rfl rfl (y_move rfl) ?_
    refine Hd.unguard rfl rfl ?_
    refine Hd.callE rfl fk39 (add_no _ 1 1 1) (Ent.sep enn) ?_
    intro _
    first | (refine Hd.yg rfl rfl (y_eqlT rfl rfl) ?_) | (refine Hd.yg rfl rfl (y_eql rfl rfl) ?_)
    first | (refine Hd.yv (y_pickT rfl rfl) ?_) | (refine Hd.yv (y_pickF rfl rfl) ?_) | (refine Hd.yv (y_pickb rfl rfl rfl) ?_) | (refine Hd.yv (y_pick rfl rfl rfl) ?_)
    refine Hd.yv (y_move rfl) ?_
    refine Hd.yg rfl rfl (y_move rfl) ?_
    refine Hd.unguard rfl rfl ?_
    refine Hd.callE rfl fk38 (common_no _ 1) (Ent.sep enn) ?_
    intro _
    first | (refine Hd.yg rfl rfl (y_eqlT rfl rfl) ?_) | (refine Hd.yg rfl rfl (y_eql rfl rfl) ?_)
    first | (refine Hd.yv (y_pickT rfl rfl) ?_) | (refine Hd.yv (y_pickF rfl rfl) ?_) | (refine Hd.yv (y_pickb rfl rfl rfl) ?_) | (refine Hd.yv (y_pick rfl rfl rfl) ?_)
    refine Hd.yv (y_move rfl) ?_
    refine Hd.yg rfl rfl (y_move rfl) ?_
    refine Hd.yg rfl rfl (y_not rfl) ?_
    first | (refine Hd.yv (y_pickT rfl rfl) ?_) | (refine Hd.yv (y_pickF rfl rfl) ?_) | (refine Hd.yv (y_pickb rfl rfl rfl) ?_) | (refine Hd.yv (y_pick rfl rfl rfl) ?_)
    refine Hd.yv (y_move rfl) ?_
    refine Hd.yg rfl rfl (y_move rfl) ?_
    refine Hd.unguard rfl rfl ?_
    refine Hd.callE rfl fk45 (len_no _) (Ent.sep enn) ?_
    intro _
    first | (refine Hd.yg rfl rfl (y_eqlT rfl rfl) ?_) | (refine Hd.yg rfl rfl (y_eql rfl rfl) ?_)
    first | (refine Hd.yv (y_pickT rfl rfl) ?_) | (refine Hd.yv (y_pickF rfl rfl) ?_) | (refine Hd.yv (y_pickb rfl rfl rfl) ?_) | (refine Hd.yv (y_pick rfl rfl rfl) ?_)
    refine Hd.yv (y_move rfl) ?_
    refine Hd.yg rfl rfl (y_move rfl) ?_
    refine Hd.unguard rfl rfl ?_
    refine Hd.callE rfl fk40 (cut_no _ 1) (Ent.sep enn) ?_
    intro _
    refine Hd.yg rfl rfl (y_not rfl) ?_
    first | (refine Hd.yv (y_pickT rfl rfl) ?_) | (refine Hd.yv (y_pickF rfl rfl) ?_) | (refine Hd.yv (y_pickb rfl rfl rfl) ?_) | (refine Hd.yv (y_pick rfl rfl rfl) ?_)
    refine Hd.yv (y_move rfl) ?_
    refine Hd.yg rfl rfl (y_move rfl) ?_
    refine Hd.unguard rfl rfl ?_
    refine Hd.callE rfl fk41 (cdue_ct _ o (qN 31) [y2, y7] 3 (by decide) 18446744073709551615) (Ent.sep enn) ?_
    rintro ⟨ad, cap⟩
    dsimp only
    rw [show dueI 18446744073709551615 [y2, y7] = [y2, y7] by decide +kernel]
    refine Hd.yg rfl rfl (y_len Try.underlying22 rfl) ?_
    first | (refine Hd.yg rfl rfl (y_eqlT rfl rfl) ?_) | (refine Hd.yg rfl rfl (y_eql rfl rfl) ?_)
    first | (refine Hd.yv (y_pickT rfl rfl) ?_) | (refine Hd.yv (y_pickF rfl rfl) ?_) | (refine Hd.yv (y_pickb rfl rfl rfl) ?_) | (refine Hd.yv (y_pick rfl rfl rfl) ?_)
    refine Hd.yv (y_assign rfl) ?_
    refine Hd.nil ?_
    refine Hd.slots [(0, _)] ⟨rfl, trivial⟩ ?_
    refine Hd.toK hK20 ?_
    refine Hd.ret ?_
    clear hK1 hK2 hK3 hK4 hK5 hK6 hK7 hK8 hK9 hK10 hK11 hK12 hK13 hK15 hK16 hK17 hK18 hK19 hK20
    exact Hd.ret1 rfl () (by first | rfl | (simp only [*]; done) | (simp [*]; done)) (Ent.sep enn)
end Cm
end Go.Proofs.Ytcnegelaenkgpaa
