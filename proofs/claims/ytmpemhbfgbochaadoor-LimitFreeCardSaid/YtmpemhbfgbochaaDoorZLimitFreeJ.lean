/- Without buckets, in a group that has none, a limiter does what its buffered event would: the law LimitFree answers true, whatever its input, the table of flags being what the program's text lays. No other condition. -/
import Derived.Test.YtmpemhbfgbochaaDoorCards
import Derived.Test.YtmpemhbfgbochaaDoorTie
import Derived.OpenShut
import Derived.Deep.DeepHandedRow
import Derived.Lib.LaidTab
import Derived.Lib.SmallJoins
import Derived.Test.YtmpemhbfgbochaaDoorZLimitFreeI
namespace Go.Proofs.YtmpemhbfgbochaaDoor
set_option linter.unusedSimpArgs false
set_option linter.unusedVariables false
set_option linter.unnecessarySimpa false
open Go.RX Fx
namespace Lm
open Bu Wo
set_option maxRecDepth 8000
theorem lg_ng {lb : Nat} {l : LmA} (hg : l.g = none) (G : GrA) {x : Nat → BkA} (y : Nat → BkA) {L : List SP} : ∀ h, sep (LmH lb l :: SlB (l.b 0) (x 0) :: SlB (l.b 1) (x 1) :: L) h → sep (LgL lb l G x y L) h := fun h s => by
  unfold LgL
  rw [hg]
  exact Ent.sep (.pick pkk (.pure trivial (.pick pkk (.pick pkk (.pure trivial (.pure trivial enn)))))) h s
theorem lg_gr {lb gb : Nat} {l : LmA} (hg : l.g = some gb) {G : GrA} {x y : Nat → BkA} {L : List SP} : ∀ h, sep (LmH lb l :: GrH gb G :: SlB (l.b 0) (x 0) :: SlB (l.b 1) (x 1) :: SlB (G.b 0) (y 0) :: SlB (G.b 1) (y 1) :: L) h → sep (LgL lb l G x y L) h := fun h s => by
  unfold LgL
  rw [hg]
  exact s
def lvB (a b : Bool) (X Y : BkA) : Int := if nV X Y ((if a = true then [0] else []) ++ (if b = true then [1] else [])) < 1 then 0 else nV X Y ((if a = true then [0] else []) ++ (if b = true then [1] else []))
theorem lvS_b (s gs : Option Nat) (X Y : BkA) : lvS s gs X Y = lvB s.isSome gs.isSome X Y := rfl
def lwB (v0 v1 m : Int) : Int := if v1 = 0 then bits .andNot .i64 (if v0 = 0 then bits .andNot .i64 m 2 else m) 4 else if v0 = 0 then bits .andNot .i64 m 2 else m
theorem lwK_b (l : LmA) (G : GrA) (x y : Nat → BkA) (m : Int) : lwK l G x y m 2 = lwB (lvA l G x y 0) (lvA l G x y 1) m := by
  rw [lwK_succ, lwK_succ]; rfl
theorem whK_2 (l : LmA) (G : GrA) (x y : Nat → BkA) (m now : Int) : whK l G x y m now 2 = if bits .and .i64 m 4 = 0 ∨ 0 < lvA l G x y 1 then (if bits .and .i64 m 2 = 0 ∨ 0 < lvA l G x y 0 then NV else min NV (mV (x 0) (y 0) now (itS (l.b 0) (gsl l.g G 0)))) else min (if bits .and .i64 m 2 = 0 ∨ 0 < lvA l G x y 0 then NV else min NV (mV (x 0) (y 0) now (itS (l.b 0) (gsl l.g G 0)))) (mV (x 1) (y 1) now (itS (l.b 1) (gsl l.g G 1))) := by
  rw [whK_succ, whK_succ]; rfl
theorem gv_con {s : Nat → Option Nat} {x : Nat → BkA} (h : ∀ k, BkOk (x k)) {now : Int} (hn : InK .u64 now) {r : Nat → RtA} (hr : mayB r = true) (hd : ∀ k, 2 ≤ k → rz (r k) = true) : ∀ k, BkOk (gvX s x now r k) := fun k => by
  by_cases hk : k < 2
  · exact gv_ok h hn hr hk
  · unfold gvX; rw [if_pos (hd k (by omega))]; exact h k
abbrev rts (a b : RtA) : Nat → RtA := fun k => if k = 0 then a else if k = 1 then b else ⟨0, 0, 0⟩
theorem rts_far (a b : RtA) : ∀ k, 2 ≤ k → rz (rts a b k) = true := fun k hk => by
  unfold rts
  rw [if_neg (by omega), if_neg (by omega)]; rfl
abbrev r0 : RtA := ⟨0, 0, 0⟩
abbrev frX : BfA := enB (newB 0) 0 2
abbrev frW (n m : Nat) : WA := (writeR (pairA n) 1 (List.replicate m 0)).2
set_option maxHeartbeats 2000000 in
theorem few_ct (L : List SP) (n m : Nat) (h1 : 1 ≤ n) (h2 : n ≤ 65536) (hm : m ≤ 60000) : Ct Tryd.prog 8 #[.int .i64 (n : Int), .int .i64 (m : Int)] (L) (fun q_ : Nat × Nat × Nat => .tuple #[.pointer (some ⟨q_.1, 0, none⟩), .pointer (some ⟨q_.2.2, 0, none⟩), .bool true]) (fun q_ : Nat × Nat × Nat => LmH q_.2.2 ⟨q_.2.1, noS, none⟩ :: BufP q_.2.1 q_.1 frX :: WorldP q_.1 (frW n m) :: L) := by
  refine Ct.of (vs := [.int .i64 (n : Int), .int .i64 (m : Int)]) Tryd.func8 rfl rfl [(0, .int .i64 (n : Int)), (1, .int .i64 (m : Int))] (by repeat (first | exact trivial | refine ⟨rfl, ?_⟩)) ?_
  intro E
  show Hd E 40 _ _ _ _
  refine Hd.seq (fun K1 hK1 => ?_)
  refine Hd.region ?_
  refine Hd.yv (y_assign rfl) ?_
  refine Hd.yv (y_assign rfl) ?_
  refine Hd.yv (y_assign rfl) ?_
  refine Hd.nil ?_
  refine Hd.slots [(0, _), (1, _)] ⟨rfl, rfl, trivial⟩ ?_
  refine Hd.toK hK1 ?_
  refine Hd.seq (fun K2 hK2 => ?_)
  refine Hd.region ?_
  refine Hd.callE rfl fk23 (wnew_ct _) (Ent.sep enn) ?_
  intro wb
  refine Hd.yv (y_assign rfl) ?_
  refine Hd.nil ?_
  refine Hd.slots [(0, _), (1, _), (7, _)] ⟨rfl, rfl, rfl, trivial⟩ ?_
  refine Hd.toK hK2 ?_
  refine Hd.seq (fun K3 hK3 => ?_)
  refine Hd.region ?_
  refine Hd.yv (y_move rfl) ?_
  refine Hd.yv (y_move rfl) ?_
  refine Hd.callE rfl fk24 (pair_ct _ wb newA n h1 h2) (Ent.sep enn) ?_
  intro _
  refine Hd.nil ?_
  refine Hd.slots [(1, _), (7, _)] ⟨rfl, rfl, trivial⟩ ?_
  refine Hd.toK hK3 ?_
  refine Hd.seq (fun K4 hK4 => ?_)
  refine Hd.region ?_
  refine Hd.yv (y_move rfl) ?_
  refine Hd.callE rfl fk25 (bnew_ct _ wb (pairA n) 0 (op_pr (pr_new n))) (Ent.sep enn) ?_
  intro b
  refine Hd.yv (y_move rfl) ?_
  refine Hd.yv (y_extract rfl rfl) ?_
  refine Hd.yv (y_extract rfl rfl) ?_
  refine Hd.yv (y_assign rfl) ?_
  refine Hd.yv (y_assign rfl) ?_
  refine Hd.nil ?_
  refine Hd.slots [(1, _), (7, _), (8, _), (9, _)] ⟨rfl, rfl, rfl, rfl, trivial⟩ ?_
  refine Hd.toK hK4 ?_
  refine Hd.seq (fun K5 hK5 => ?_)
  refine Hd.region ?_
  refine Hd.yv (y_move rfl) ?_
  refine Hd.callE rfl fk26 (enable_ct _ b wb (newB 0) (tm_new 0) 0 2 (by simp [InK])) (Ent.sep enn) ?_
  intro _
  refine Hd.nil ?_
  refine Hd.slots [(1, _), (7, _), (8, _), (9, _)] ⟨rfl, rfl, rfl, rfl, trivial⟩ ?_
  refine Hd.toK hK5 ?_
  refine Hd.seq (fun K6 hK6 => ?_)
  refine Hd.region ?_
  refine Hd.yv (y_move rfl) ?_
  refine Hd.yv (y_move rfl) ?_
  refine Hd.mkslice Tryd.underlying35 ty5 zr5 rfl rfl rfl rfl (by omega) (by omega) (by simp only [maxLen]; omega) (fun b25 cs25 hcs25 => ?_)
  have hcs : cs25 = bsl (List.replicate m 0) := by rw [hcs25]; exact noughts_cells m
  subst hcs
  refine Hd.ptOwn (b := b25) (m := m) pkk (by simp) (by simp only [maxLen]; omega) ?_
  refine Hd.callE rfl fk10 (wwrite_ct _ wb (pairA n) 1 (some ⟨b25, 0, none⟩) m m (List.replicate m 0) (by simp) ?hD (by omega) (Nat.le_refl _)) (Ent.sep enn) ?_
  case hD => exact RdS.own pkk
  intro _
  refine Hd.nil ?_
  refine Hd.slots [(7, _), (8, _), (9, _)] ⟨rfl, rfl, rfl, trivial⟩ ?_
  refine Hd.toK hK6 ?_
  refine Hd.seq (fun K7 hK7 => ?_)
  refine Hd.region ?_
  refine Hd.yv (y_move rfl) ?_
  refine Hd.callE rfl fk22 (lnew_ct _ b) (Ent.sep enn) ?_
  intro lb
  refine Hd.yv (y_move rfl) ?_
  refine Hd.yv (y_extract rfl rfl) ?_
  refine Hd.yv (y_extract rfl rfl) ?_
  refine Hd.yv (y_assign rfl) ?_
  refine Hd.yv (y_assign rfl) ?_
  refine Hd.nil ?_
  refine Hd.slots [(7, _), (9, _), (10, _), (11, _)] ⟨rfl, rfl, rfl, rfl, trivial⟩ ?_
  refine Hd.toK hK7 ?_
  refine Hd.seq (fun K8 hK8 => ?_)
  refine Hd.region ?_
  refine Hd.yv (y_move rfl) ?_
  refine Hd.yv (y_move rfl) ?_
  refine Hd.yv (y_move rfl) ?_
  first | (refine Hd.yv (y_to (y_eqlT rfl rfl) (congrArg Value.bool (decide_eq_true (rfl)))) ?_) | (refine Hd.yv (y_to (y_eql rfl rfl) (congrArg Value.bool (decide_eq_true (rfl)))) ?_)
  refine Hd.yv (y_move rfl) ?_
  refine Hd.yg rfl rfl (y_move rfl) ?_
  first | (refine Hd.yg rfl rfl (y_to (y_eqlT rfl rfl) (congrArg Value.bool (decide_eq_true (rfl)))) ?_) | (refine Hd.yg rfl rfl (y_to (y_eql rfl rfl) (congrArg Value.bool (decide_eq_true (rfl)))) ?_)
  first | (refine Hd.yv (y_pickT rfl rfl) ?_) | (refine Hd.yv (y_pickF rfl rfl) ?_) | (refine Hd.yv (y_pickb rfl rfl rfl) ?_) | (refine Hd.yv (y_pick rfl rfl rfl) ?_)
  refine Hd.yv (y_assign rfl) ?_
  refine Hd.yv (y_assign rfl) ?_
  refine Hd.yv (y_assign rfl) ?_
  refine Hd.nil ?_
  refine Hd.slots [(4, _), (5, _), (6, _)] ⟨rfl, rfl, rfl, trivial⟩ ?_
  refine Hd.toK hK8 ?_
  refine Hd.ret ?_
  clear hK1 hK2 hK3 hK4 hK5 hK6 hK7 hK8
  exact Hd.ret3 rfl (wb, b, lb) rfl rfl rfl rfl (Ent.sep enn)
abbrev exR : Nat → RtA := rts ⟨10, 5, 20⟩ r0
abbrev exX : Nat → BkA := gvX noS dmX 0 exR
abbrev exW : WA := frW 100 50
abbrev exS1 : StA := stepS frX exW 0 2 20 4096
abbrev exX1 : Nat → BkA := stX 0 exS1.t exX
abbrev exX2 : Nat → BkA := cmA 0 exX1
abbrev exX3 : Nat → BkA := cmA 0 exX2
abbrev exS4 : StA := stepS exS1.x exS1.w 4 0 0 4096
abbrev exX4 : Nat → BkA := stX 4 exS4.t exX3
abbrev exS5 : StA := stepS exS4.x exS4.w 5 2 10 4096
abbrev exX5 : Nat → BkA := stX 5 exS5.t exX4
theorem ex_may : mayB exR = true := by decide +kernel
theorem ex_k0 : ∀ k, BkOk (exX k) := gv_con (fun _ => dum_ok) (by simp [InK]) ex_may (rts_far _ _)
theorem stX_ok {x : Nat → BkA} (h : ∀ k, BkOk (x k)) {now : Int} (hn : InK .u64 now) (t : ToA) : ∀ k, BkOk (stX now t x k) := fun k => tak_ok (h k) hn _
theorem cmA_ok {x : Nat → BkA} (h : ∀ k, BkOk (x k)) {now : Int} (hn : InK .u64 now) : ∀ k, BkOk (cmA now x k) := fun k => come_ok (h k) hn
theorem ex_t1 : encT exS1.t = [.bool true, .bool false, .int .i64 0, .int .i64 0, .int .i64 20, .int .i64 0] := by rfl
theorem ex_t4 : encT exS4.t = [.bool false, .bool false, .int .i64 0, .int .i64 0, .int .i64 0, .int .i64 0] := by rfl
theorem ex_t5 : encT exS5.t = [.bool true, .bool false, .int .i64 0, .int .i64 0, .int .i64 10, .int .i64 0] := by rfl
abbrev exY1 : Nat → BkA := stX 0 exS1.t dmX
abbrev exY2 : Nat → BkA := cmA 0 exY1
abbrev exY3 : Nat → BkA := cmA 0 exY2
abbrev exY4 : Nat → BkA := stX 4 exS4.t exY3
abbrev exY5 : Nat → BkA := stX 5 exS5.t exY4
theorem in0 : InK .u64 0 := by simp [InK]
theorem in4 : InK .u64 4 := by simp [InK]
theorem in5 : InK .u64 5 := by simp [InK]
theorem ex_c0 : ConOk exX dmX := ⟨ex_k0, fun _ => dum_ok⟩
theorem ex_c1 : ConOk exX1 exY1 := ⟨stX_ok ex_c0.x in0 _, stX_ok ex_c0.y in0 _⟩
theorem ex_c2 : ConOk exX2 exY2 := ⟨cmA_ok ex_c1.x in0, cmA_ok ex_c1.y in0⟩
theorem ex_c3 : ConOk exX3 exY3 := ⟨cmA_ok ex_c2.x in0, cmA_ok ex_c2.y in0⟩
theorem ex_c4 : ConOk exX4 exY4 := ⟨stX_ok ex_c3.x in4 _, stX_ok ex_c3.y in4 _⟩
theorem ex_c5 : ConOk exX5 exY5 := ⟨stX_ok ex_c4.x in5 _, stX_ok ex_c4.y in5 _⟩
theorem ex_b0 : BOk frX := bok_en (bok_new 0) in0 2
theorem ex_b1 : BOk exS1.x := bok_step ex_b0 in0 _ _ _ _
theorem ex_b4 : BOk exS4.x := bok_step ex_b1 in4 _ _ _ _
theorem ex_l1 : lvB true false (cmA 0 exX 0) (cmA 0 dmX 0) = 20 := by decide +kernel
theorem ex_m1 : lvB false false (cmA 0 exX 1) (cmA 0 dmX 1) = 4096 := by decide +kernel
theorem ex_f1 : bits .and .i64 2 (lwB 20 4096 (wantsA frX)) = 2 := by decide +kernel
theorem ex_w2 : lwB (lvB true false (exX2 0) (exY2 0)) (lvB false false (exX2 1) (exY2 1)) (wantsA exS1.x) = 0 := by decide +kernel
theorem ex_l3 : lvB true false (exX3 0) (exY3 0) = 0 := by decide +kernel
theorem ex_m3 : lvB false false (exX3 1) (exY3 1) = 4096 := by decide +kernel
theorem ex_v3 : mV (exX3 0) (exY3 0) 0 [0] = 5 := by decide +kernel
theorem ex_b3 : bits .and .i64 (wantsA exS1.x) 4 = 0 ∧ ¬ bits .and .i64 (wantsA exS1.x) 2 = 0 := by decide +kernel
theorem ex_l4 : lvB true false (cmA 4 exX3 0) (cmA 4 exY3 0) = 0 := by decide +kernel
theorem ex_m4 : lvB false false (cmA 4 exX3 1) (cmA 4 exY3 1) = 4096 := by decide +kernel
theorem ex_f4 : bits .and .i64 2 (lwB 0 4096 (wantsA exS1.x)) = 0 := by decide +kernel
theorem ex_l5 : lvB true false (cmA 5 exX4 0) (cmA 5 exY4 0) = 10 := by decide +kernel
theorem ex_m5 : lvB false false (cmA 5 exX4 1) (cmA 5 exY4 1) = 4096 := by decide +kernel
theorem ex_f5 : bits .and .i64 2 (lwB 10 4096 (wantsA exS4.x)) = 2 := by decide +kernel
theorem ex_l6 : lvB true false (cmA 5 exX5 0) (cmA 5 exY5 0) = 0 := by decide +kernel
theorem ex_m6 : lvB false false (cmA 5 exX5 1) (cmA 5 exY5 1) = 4096 := by decide +kernel
theorem ls_of {l : LmA} {G : GrA} {x y : Nat → BkA} {X : BfA} {w : WA} {now flags v0 v1 f : Int} (h0 : lvA l G (cmA now x) (cmA now y) 0 = v0) (h1 : lvA l G (cmA now x) (cmA now y) 1 = v1) (hf : bits .and .i64 flags (lwB v0 v1 (wantsA X)) = f) : lsS l G x y X w now flags = stepS X w now f v0 v1 := by
  unfold lsS
  rw [lwK_b, h0, h1, hf]
theorem lv0_b {b : Nat} {s : Nat → Option Nat} {g : Option Nat} {G : GrA} {c d : Bool} {k : Nat} (h : (s k).isSome = c) (hg : (gsl g G k).isSome = d) (x y : Nat → BkA) : lvA ⟨b, s, g⟩ G x y k = lvB c d (x k) (y k) := by
  unfold lvA; rw [lvS_b, h, hg]
abbrev G0 : GrA := ⟨noS, 0⟩
set_option maxHeartbeats 2000000 in
theorem alive27_ct (L : List SP) (hF : Rd L 0 0 flV) : Ct Tryd.prog 7 #[] (L) (fun _ : Unit => .bool true) (fun _ : Unit => L) := by
  refine Ct.of (vs := []) Tryd.func7 rfl rfl [] (by repeat (first | exact trivial | refine ⟨rfl, ?_⟩)) ?_
  intro E
  show Hd E 72 _ _ _ _
  refine Hd.seq (fun K1 hK1 => ?_)
  refine Hd.region ?_
  refine Hd.yv (y_assign rfl) ?_
  refine Hd.nil ?_
  refine Hd.slots [] trivial ?_
  refine Hd.toK hK1 ?_
  refine Hd.seq (fun K2 hK2 => ?_)
  refine Hd.region ?_
  refine Hd.callE rfl fk8 (few_ct _ 100 50 (by decide) (by decide) (by decide)) (Ent.sep enn) ?_
  rintro ⟨wb, b, lb⟩
  dsimp only
  refine Hd.yv (y_move rfl) ?_
  refine Hd.yv (y_extract rfl rfl) ?_
  refine Hd.yv (y_extract rfl rfl) ?_
  refine Hd.yv (y_extract rfl rfl) ?_
  refine Hd.yv (y_assign rfl) ?_
  refine Hd.yv (y_assign rfl) ?_
  refine Hd.yv (y_assign rfl) ?_
  refine Hd.nil ?_
  refine Hd.slots [(2, _), (3, _)] ⟨rfl, rfl, trivial⟩ ?_
  refine Hd.toK hK2 ?_
  refine Hd.seq (fun K3 hK3 => ?_)
  refine Hd.heap (LmH lb ⟨b, noS, none⟩ :: SlB (noS 0) (dmX 0) :: SlB (noS 1) (dmX 1) :: BufP b wb frX :: WorldP wb exW :: L) (fun q s => by rw [slB_noS]; exact Ent.sep (.pick pkk (.pure trivial (.pure trivial enn))) q s) ?_
  refine Hd.region ?_
  refine Hd.yv (y_move rfl) ?_
  refine Hd.yv (y_build (vs := [(0, _), (1, _), (2, _)]) rfl (by first | exact bd7_18 .. | kernel_rfl)) ?_
  refine Hd.yv (y_build (vs := []) rfl (by first | exact bd7_19 .. | kernel_rfl)) ?_
  refine Hd.callE rfl fk9 (lset_ct _ lb ⟨b, noS, none⟩ dmX (fun _ => dum_ok) exR ex_may 0 in0) (Ent.sep enn) ?_
  intro s
  refine Hd.yv (y_assign rfl) ?_
  refine Hd.nil ?_
  refine Hd.pure (fun hs => ?_)
  have h0 : (s 0).isSome = true := hs 0 (by decide)
  have h1 : (s 1).isSome = false := hs 1 (by decide)
  have hl0 : ∀ x y : Nat → BkA, lvA ⟨b, s, none⟩ G0 x y 0 = lvB true false (x 0) (y 0) := lv0_b h0 rfl
  have hl1 : ∀ x y : Nat → BkA, lvA ⟨b, s, none⟩ G0 x y 1 = lvB false false (x 1) (y 1) := lv0_b h1 rfl
  have hit : itS (s 0) (gsl none G0 0) = [0] := by unfold itS; rw [h0]; rfl
  refine Hd.heap (LgL lb ⟨b, s, none⟩ G0 exX dmX (BufP b wb frX :: WorldP wb exW :: L)) (fun q t => lg_ng rfl G0 dmX q (Ent.sep enn q t)) ?_
  refine Hd.slots [(2, _), (3, _), (4, _)] ⟨rfl, rfl, rfl, trivial⟩ ?_
  refine Hd.toK hK3 ?_
  refine Hd.seq (fun K4 hK4 => ?_)
  refine Hd.region ?_
  refine Hd.yv (y_move rfl) ?_
  refine Hd.callE rfl fk11 (lstep_ct _ lb wb ⟨b, s, none⟩ G0 exX dmX ex_c0 frX ex_b0 exW 0 2 in0 ?hF exS1 (ls_of ((hl0 _ _).trans ex_l1) ((hl1 _ _).trans ex_m1) ex_f1) (by rw [show exS1.t.i = 20 by rfl]; simp [InK]) (by rw [show exS1.t.o = 0 by rfl]; simp [InK])) (Ent.sep enn) ?_
  case hF => exact Rd.mono hF (Ent.sep enn)
  intro _
  rw [ex_t1]
  refine Hd.alloc zr37 (fun b5 => ?_)
  refine Hd.storeA (us := [.bool true, .bool false, .int .i64 0, .int .i64 0, .int .i64 20, .int .i64 0]) sz37 rfl rfl rfl (by simp [Value.oneCell']) pkk (by exact rfl) ?_
  refine Hd.nil ?_
  refine Hd.slots [(2, _), (3, _), (4, _), (5, _)] ⟨rfl, rfl, rfl, rfl, trivial⟩ ?_
  refine Hd.toK hK4 ?_
  refine Hd.seq (fun K5 hK5 => ?_)
  refine Hd.region ?_
  refine Hd.yv (y_move rfl) ?_
  refine Hd.callE rfl fk16 (lwants_ct _ lb wb ⟨b, s, none⟩ G0 exX1 exY1 ex_c1 exS1.x 0 in0 ?hF) (Ent.sep enn) ?_
  case hF => exact Rd.mono hF (Ent.sep enn)
  intro _
  rw [lwK_b, hl0, hl1, ex_w2]
  refine Hd.yv (y_assign rfl) ?_
  refine Hd.nil ?_
  refine Hd.slots [(2, _), (3, _), (4, _), (5, _), (6, _)] ⟨rfl, rfl, rfl, rfl, rfl, trivial⟩ ?_
  refine Hd.toK hK5 ?_
  refine Hd.seq (fun K6 hK6 => ?_)
  refine Hd.region ?_
  refine Hd.yv (y_move rfl) ?_
  refine Hd.callE rfl fk15 (lwhen_ct _ lb wb ⟨b, s, none⟩ G0 exX2 exY2 ex_c2 exS1.x 0 in0 ?hF) (Ent.sep enn) ?_
  case hF => exact Rd.mono hF (Ent.sep enn)
  intro _
  rw [whK_2, hl0, hl1, ex_l3, ex_m3, hit, ex_v3, if_pos (.inr (by decide)), if_neg (fun h => h.elim ex_b3.2 (by decide))]
  refine Hd.yv (y_assign rfl) ?_
  refine Hd.nil ?_
  refine Hd.slots [(2, _), (3, _), (4, _), (5, _), (6, _), (7, _)] ⟨rfl, rfl, rfl, rfl, rfl, rfl, trivial⟩ ?_
  refine Hd.toK hK6 ?_
  refine Hd.seq (fun K7 hK7 => ?_)
  refine Hd.region ?_
  refine Hd.yv (y_move rfl) ?_
  refine Hd.callE rfl fk11 (lstep_ct _ lb wb ⟨b, s, none⟩ G0 exX3 exY3 ex_c3 exS1.x ex_b1 exS1.w 4 2 in4 ?hF exS4 (ls_of ((hl0 _ _).trans ex_l4) ((hl1 _ _).trans ex_m4) ex_f4) (by rw [show exS4.t.i = 0 by rfl]; simp [InK]) (by rw [show exS4.t.o = 0 by rfl]; simp [InK])) (Ent.sep enn) ?_
  case hF => exact Rd.mono hF (Ent.sep enn)
  intro _
  rw [ex_t4]
  refine Hd.alloc zr37 (fun b8 => ?_)
  refine Hd.storeA (us := [.bool false, .bool false, .int .i64 0, .int .i64 0, .int .i64 0, .int .i64 0]) sz37 rfl rfl rfl (by simp [Value.oneCell']) pkk (by exact rfl) ?_
  refine Hd.nil ?_
  refine Hd.slots [(2, _), (3, _), (4, _), (5, _), (6, _), (7, _), (8, _)] ⟨rfl, rfl, rfl, rfl, rfl, rfl, rfl, trivial⟩ ?_
  refine Hd.toK hK7 ?_
  refine Hd.seq (fun K8 hK8 => ?_)
  refine Hd.region ?_
  refine Hd.yv (y_move rfl) ?_
  refine Hd.callE rfl fk11 (lstep_ct _ lb wb ⟨b, s, none⟩ G0 exX4 exY4 ex_c4 exS4.x ex_b4 exS4.w 5 2 in5 ?hF exS5 (ls_of ((hl0 _ _).trans ex_l5) ((hl1 _ _).trans ex_m5) ex_f5) (by rw [show exS5.t.i = 10 by rfl]; simp [InK]) (by rw [show exS5.t.o = 0 by rfl]; simp [InK])) (Ent.sep enn) ?_
  case hF => exact Rd.mono hF (Ent.sep enn)
  intro _
  rw [ex_t5]
  refine Hd.alloc zr37 (fun b9 => ?_)
  refine Hd.storeA (us := [.bool true, .bool false, .int .i64 0, .int .i64 0, .int .i64 10, .int .i64 0]) sz37 rfl rfl rfl (by simp [Value.oneCell']) pkk (by exact rfl) ?_
  refine Hd.nil ?_
  refine Hd.slots [(2, _), (3, _), (4, _), (5, _), (6, _), (7, _), (8, _), (9, _)] ⟨rfl, rfl, rfl, rfl, rfl, rfl, rfl, rfl, trivial⟩ ?_
  refine Hd.toK hK8 ?_
  refine Hd.seq (fun K9 hK9 => ?_)
  refine Hd.region ?_
  refine Hd.yv (y_move rfl) ?_
  refine Hd.callE rfl fk14 (leaves_ct _ lb ⟨b, s, none⟩ G0 exX5 exY5 ex_c5 5 in5) (Ent.sep enn) ?_
  intro _
  rw [show lvS (LmA.b ⟨b, s, none⟩ 0) (gsl (LmA.g ⟨b, s, none⟩) G0 0) (cmA 5 exX5 0) (cmA 5 exY5 0) = 0 from (hl0 (cmA 5 exX5) (cmA 5 exY5)).trans ex_l6, show lvS (LmA.b ⟨b, s, none⟩ 1) (gsl (LmA.g ⟨b, s, none⟩) G0 1) (cmA 5 exX5 1) (cmA 5 exY5 1) = 4096 from (hl1 (cmA 5 exX5) (cmA 5 exY5)).trans ex_m6]
  refine Hd.yv (y_move rfl) ?_
  refine Hd.yv (y_extract rfl rfl) ?_
  refine Hd.yv (y_extract rfl rfl) ?_
  refine Hd.yv (y_assign rfl) ?_
  refine Hd.yv (y_assign rfl) ?_
  refine Hd.nil ?_
  refine Hd.slots [(3, _), (4, _), (5, _), (6, _), (7, _), (8, _), (9, _), (10, _), (11, _)] ⟨rfl, rfl, rfl, rfl, rfl, rfl, rfl, rfl, rfl, trivial⟩ ?_
  refine Hd.toK hK9 ?_
  refine Hd.seq (fun K10 hK10 => ?_)
  refine Hd.region ?_
  refine Hd.yv (y_move rfl) ?_
  refine Hd.yv (y_move rfl) ?_
  refine Hd.yg rfl rfl (y_move rfl) ?_
  first | (refine Hd.yg rfl rfl (y_to (y_eqlT rfl rfl) (congrArg Value.bool (decide_eq_true ((by rfl))))) ?_) | (refine Hd.yg rfl rfl (y_to (y_eql rfl rfl) (congrArg Value.bool (decide_eq_true ((by rfl))))) ?_)
  first | (refine Hd.yv (y_pickT rfl rfl) ?_) | (refine Hd.yv (y_pickF rfl rfl) ?_) | (refine Hd.yv (y_pickb rfl rfl rfl) ?_) | (refine Hd.yv (y_pick rfl rfl rfl) ?_)
  refine Hd.yv (y_move rfl) ?_
  refine Hd.yg rfl rfl (y_loadn (us := [.bool true, .bool false, .int .i64 0, .int .i64 0, .int .i64 20, .int .i64 0]) ag37 rfl (Rd.pt (b := b5) pkk (fun j v e => by rw [Nat.zero_add]; exact e)) (by exact sz37)) ?_
  refine Hd.yg rfl rfl (y_build (vs := [(0, _), (4, _)]) rfl (by first | exact bd7_43 .. | kernel_rfl)) ?_
  refine Hd.yg rfl rfl (y_to (v' := .bool true) (y_eql_agg rfl rfl eqt37 rfl ⟨rfl, rfl⟩) (by rfl)) ?_
  first | (refine Hd.yv (y_pickT rfl rfl) ?_) | (refine Hd.yv (y_pickF rfl rfl) ?_) | (refine Hd.yv (y_pickb rfl rfl rfl) ?_) | (refine Hd.yv (y_pick rfl rfl rfl) ?_)
  refine Hd.yv (y_move rfl) ?_
  refine Hd.yg rfl rfl (y_move rfl) ?_
  first | (refine Hd.yg rfl rfl (y_to (y_eqlT rfl rfl) (congrArg Value.bool (decide_eq_true ((by rfl))))) ?_) | (refine Hd.yg rfl rfl (y_to (y_eql rfl rfl) (congrArg Value.bool (decide_eq_true ((by rfl))))) ?_)
  first | (refine Hd.yv (y_pickT rfl rfl) ?_) | (refine Hd.yv (y_pickF rfl rfl) ?_) | (refine Hd.yv (y_pickb rfl rfl rfl) ?_) | (refine Hd.yv (y_pick rfl rfl rfl) ?_)
  refine Hd.yv (y_move rfl) ?_
  refine Hd.yg rfl rfl (y_move rfl) ?_
  first | (refine Hd.yg rfl rfl (y_to (y_eqlT rfl rfl) (congrArg Value.bool (decide_eq_true ((by decide))))) ?_) | (refine Hd.yg rfl rfl (y_to (y_eql rfl rfl) (congrArg Value.bool (decide_eq_true ((by decide))))) ?_)
  first | (refine Hd.yv (y_pickT rfl rfl) ?_) | (refine Hd.yv (y_pickF rfl rfl) ?_) | (refine Hd.yv (y_pickb rfl rfl rfl) ?_) | (refine Hd.yv (y_pick rfl rfl rfl) ?_)
  refine Hd.yv (y_move rfl) ?_
  refine Hd.yg rfl rfl (y_loadn (us := [.bool false, .bool false, .int .i64 0, .int .i64 0, .int .i64 0, .int .i64 0]) ag37 rfl (Rd.pt (b := b8) pkk (fun j v e => by rw [Nat.zero_add]; exact e)) (by exact sz37)) ?_
  refine Hd.yg rfl rfl (y_build (vs := []) rfl (by first | exact bd7_56 .. | kernel_rfl)) ?_
  refine Hd.yg rfl rfl (y_to (v' := .bool true) (y_eql_agg rfl rfl eqt37 rfl ⟨rfl, rfl⟩) (by rfl)) ?_
  first | (refine Hd.yv (y_pickT rfl rfl) ?_) | (refine Hd.yv (y_pickF rfl rfl) ?_) | (refine Hd.yv (y_pickb rfl rfl rfl) ?_) | (refine Hd.yv (y_pick rfl rfl rfl) ?_)
  refine Hd.yv (y_move rfl) ?_
  refine Hd.yg rfl rfl (y_loadn (us := [.bool true, .bool false, .int .i64 0, .int .i64 0, .int .i64 10, .int .i64 0]) ag37 rfl (Rd.pt (b := b9) pkk (fun j v e => by rw [Nat.zero_add]; exact e)) (by exact sz37)) ?_
  refine Hd.yg rfl rfl (y_build (vs := [(0, _), (4, _)]) rfl (by first | exact bd7_61 .. | kernel_rfl)) ?_
  refine Hd.yg rfl rfl (y_to (v' := .bool true) (y_eql_agg rfl rfl eqt37 rfl ⟨rfl, rfl⟩) (by rfl)) ?_
  first | (refine Hd.yv (y_pickT rfl rfl) ?_) | (refine Hd.yv (y_pickF rfl rfl) ?_) | (refine Hd.yv (y_pickb rfl rfl rfl) ?_) | (refine Hd.yv (y_pick rfl rfl rfl) ?_)
  refine Hd.yv (y_move rfl) ?_
  refine Hd.yg rfl rfl (y_move rfl) ?_
  first | (refine Hd.yg rfl rfl (y_to (y_eqlT rfl rfl) (congrArg Value.bool (decide_eq_true ((by rfl))))) ?_) | (refine Hd.yg rfl rfl (y_to (y_eql rfl rfl) (congrArg Value.bool (decide_eq_true ((by rfl))))) ?_)
  first | (refine Hd.yv (y_pickT rfl rfl) ?_) | (refine Hd.yv (y_pickF rfl rfl) ?_) | (refine Hd.yv (y_pickb rfl rfl rfl) ?_) | (refine Hd.yv (y_pick rfl rfl rfl) ?_)
  refine Hd.yv (y_move rfl) ?_
  refine Hd.yg rfl rfl (y_move rfl) ?_
  first | (refine Hd.yg rfl rfl (y_to (y_eqlT rfl rfl) (congrArg Value.bool (decide_eq_true ((by rfl))))) ?_) | (refine Hd.yg rfl rfl (y_to (y_eql rfl rfl) (congrArg Value.bool (decide_eq_true ((by rfl))))) ?_)
  first | (refine Hd.yv (y_pickT rfl rfl) ?_) | (refine Hd.yv (y_pickF rfl rfl) ?_) | (refine Hd.yv (y_pickb rfl rfl rfl) ?_) | (refine Hd.yv (y_pick rfl rfl rfl) ?_)
  refine Hd.yv (y_assign rfl) ?_
  refine Hd.nil ?_
  refine Hd.slots [(0, _)] ⟨rfl, trivial⟩ ?_
  refine Hd.toK hK10 ?_
  refine Hd.ret ?_
  clear hK1 hK2 hK3 hK4 hK5 hK6 hK7 hK8 hK9 hK10
  exact Hd.ret1 rfl () (by first | rfl | (simp only [*]; done) | (simp [*]; done)) (Ent.sep enn)
end Lm
end Go.Proofs.YtmpemhbfgbochaaDoor
namespace Go.Proofs.YtmpemhbfgbochaaDoor
set_option linter.unusedSimpArgs false
set_option linter.unusedVariables false
set_option linter.unnecessarySimpa false
open Go.RX Fx
namespace Lm
open Bu Wo
set_option maxRecDepth 8000
theorem sl_no {x : Nat → BkA} {L : List SP} : ∀ h, sep L h → sep (SlB (noS 0) (x 0) :: SlB (noS 1) (x 1) :: L) h := fun h s => by
  rw [slB_noS, slB_noS]; exact Ent.sep (.pure trivial (.pure trivial .same)) h s
end Lm
end Go.Proofs.YtmpemhbfgbochaaDoor
namespace Go.Proofs.YtmpemhbfgbochaaDoor
set_option linter.unusedSimpArgs false
set_option linter.unusedVariables false
set_option linter.unnecessarySimpa false
open Go.RX Fx
namespace Lm
open Bu Wo
set_option maxRecDepth 8000
theorem Ct.cases {P : Program} {f : FuncId} {vs : Array Value} {L : List SP} {ι : Type} {val : ι → Value} {post : ι → List SP} (c : Bool) (h1 : c = true → Ct P f vs L val post) (h2 : c = false → Ct P f vs L val post) : Ct P f vs L val post := by
  cases c
  · exact h2 rfl
  · exact h1 rfl
theorem stT_io (x : BfA) (got went : List UInt8) : (stT2 x went (stT1 x got noT)).i = (got.length : Int) ∧ (stT2 x went (stT1 x got noT)).o = (went.length : Int) := by
  unfold stT2 stT1
  split <;> split
  · rename_i h1 h2; subst h1; subst h2; exact ⟨rfl, rfl⟩
  · rename_i h1 h2; subst h1; exact ⟨rfl, rfl⟩
  · rename_i h1 h2; subst h2; exact ⟨rfl, rfl⟩
  · exact ⟨rfl, rfl⟩
theorem stG_max (x : BfA) (l : Nat → List UInt8) (flags most : Int) : (stG x l flags most).length ≤ 4096 ∧ ((stG x l flags most).length : Int) ≤ max 0 most := by
  have hn := rdN_le (x.s 0) most
  unfold stG
  split
  · unfold gotB
    rw [List.length_take]; omega
  · simp only [List.length_nil]; omega
theorem stW_max (n : Nat) (x : BfA) (l : Nat → List UInt8) (flags much : Int) : (stW n x l flags much).length ≤ (x.s 1).c.length := by
  have h := congrArg List.length (stW_pre n x l flags much)
  rw [List.length_append] at h; omega
structure RnI (n : Nat) (X : BfA) (w : WA) (l : Nat → List UInt8) : Prop where
  ok : BOk X
  fd : X.fd = 0
  on : ∀ k, k < 2 → (X.s k).on = true
  run : ∀ k, k < 2 → (X.s k).ended = false
  high : (X.s 0).high = 0
  out : (X.s 1).c = []
  w : PrW n w l
theorem RnI.step {n : Nat} {X : BfA} {w : WA} {l : Nat → List UInt8} (h : RnI n X w l) {now : Int} (hn : InK .u64 now) (flags most much : Int) :
    RnI n (stepS X w now flags most much).x (stepS X w now flags most much).w (mvL l (stG X l flags most) (stW n X l flags much)) ∧ (stepS X w now flags most much).t.i = ((stG X l flags most).length : Int) ∧ (stepS X w now flags most much).t.o = 0 := by
  have hs := step_pr h.w h.fd now flags most much
  have hwl := stW_max n X l flags much
  rw [h.out] at hwl
  have hw0 : stW n X l flags much = [] := List.length_eq_zero_iff.1 (by simpa using hwl)
  have hio := stT_io X (stG X l flags most) (stW n X l flags much)
  refine ⟨⟨bok_step h.ok hn w flags most much, hs.fd.trans h.fd, fun k hk => ?_, fun k hk => ?_, hs.s0.2.2.2.2.1.trans h.high, ?_, hs.w⟩, by rw [hs.t]; exact hio.1, by rw [hs.t, hio.2, hw0]; rfl⟩
  · rcases (show k = 0 ∨ k = 1 by omega) with rfl | rfl
    · exact hs.s0.2.1.trans (h.on 0 hk)
    · exact hs.s1.2.1.trans (h.on 1 hk)
  · rcases (show k = 0 ∨ k = 1 by omega) with rfl | rfl
    · exact hs.s0.2.2.1.trans (h.run 0 hk)
    · exact hs.s1.2.2.1.trans (h.run 1 hk)
  · rw [hs.s1.1, h.out, List.drop_nil]
theorem RnI.put {n : Nat} {X : BfA} {w : WA} {l : Nat → List UInt8} (h : RnI n X w l) (bs : List UInt8) : RnI n X (writeR w 1 bs).2 (updL l 0 (l 0 ++ bs.take (n - (l 0).length))) :=
  { h with w := (writeR_pr h.w (k := 1) (by omega) bs).2 }
theorem come_0 {x : BkA} (h : x.clk = 0) : come x 0 = x := if_pos (by omega)
theorem tak_0 {x : BkA} (h : x.clk = 0) (n : Int) : (tak x 0 n).clk = 0 ∧ (tak x 0 n).r = x.r := by
  unfold tak; rw [come_0 h]; split <;> exact ⟨h, rfl⟩
structure LwI (n : Nat) (r : RtA) (x y : Nat → BkA) (X : BfA) (w : WA) (l : Nat → List UInt8) : Prop where
  c : ConOk x y
  clk : (x 0).clk = 0
  r : (x 0).r = r
  n : RnI n X w l
theorem LwI.come {n : Nat} {r : RtA} {x y : Nat → BkA} {X : BfA} {w : WA} {l : Nat → List UInt8} (h : LwI n r x y X w l) : LwI n r (cmA 0 x) (cmA 0 y) X w l :=
  ⟨⟨cmA_ok h.c.x in0, cmA_ok h.c.y in0⟩, by show (Lm.come (x 0) 0).clk = 0; rw [come_0 h.clk]; exact h.clk, by show (Lm.come (x 0) 0).r = r; rw [come_0 h.clk]; exact h.r, h.n⟩
theorem LwI.take {n : Nat} {r : RtA} {x y : Nat → BkA} {X X' : BfA} {w w' : WA} {l l' : Nat → List UInt8} (h : LwI n r x y X w l) (t : ToA) (hn : RnI n X' w' l') : LwI n r (stX 0 t x) (stX 0 t y) X' w' l' :=
  ⟨⟨stX_ok h.c.x in0 t, stX_ok h.c.y in0 t⟩, (tak_0 h.clk _).1, (tak_0 h.clk _).2.trans h.r, hn⟩
theorem b22 : ¬ bits .and .i64 2 2 = 0 := by decide +kernel
end Lm
end Go.Proofs.YtmpemhbfgbochaaDoor
namespace Go.Proofs.YtmpemhbfgbochaaDoor
set_option linter.unusedSimpArgs false
set_option linter.unusedVariables false
set_option linter.unnecessarySimpa false
open Go.RX Fx
namespace Lm
open Bu Wo
set_option maxRecDepth 8000
theorem and_and (f w : Int) : bits .and .i64 (bits .and .i64 f w) w = bits .and .i64 f w := by
  have e : ∀ a b, bits .and .i64 a b = IntKind.i64.wrap ((bv a &&& bv b).toNat : Int) := fun a b => by unfold bits bv; rfl
  rw [e (bits .and .i64 f w) w, bv_and, e f w, BitVec.and_assoc, BitVec.and_self]
theorem step_and (X : BfA) (w : WA) (now f a b : Int) : stepS X w now (bits .and .i64 f (wantsA X)) a b = stepS X w now f a b := by
  have e : stepM X (bits .and .i64 f (wantsA X)) = stepM X f := and_and f (wantsA X)
  unfold stepS stepR
  rw [e]
theorem frW_0 (n : Nat) : frW n 0 = pairA n := by
  show (writeR (pairA n) 1 []).2 = pairA n
  unfold writeR
  split
  · rfl
  · split
    · rfl
    · simp only [List.length_nil, if_true]
      split
      · rfl
      · split
        · rfl
        · split <;> rfl
structure FrI (n : Nat) (X : BfA) (w : WA) (l : Nat → List UInt8) : Prop where
  ok : BOk X
  fd : X.fd = 0
  w : PrW n w l
theorem FrI.step {n : Nat} {X : BfA} {w : WA} {l : Nat → List UInt8} (h : FrI n X w l) {now : Int} (hn : InK .u64 now) (flags most much : Int) (hl : (X.s 1).c.length ≤ 1048576) :
    (∃ l2, FrI n (stepS X w now flags most much).x (stepS X w now flags most much).w l2) ∧ InK .i64 (stepS X w now flags most much).t.i ∧ InK .i64 (stepS X w now flags most much).t.o := by
  have hs := step_pr h.w h.fd now flags most much
  have hio := stT_io X (stG X l flags most) (stW n X l flags much)
  have hg := (stG_max X l flags most).1
  have hw := stW_max n X l flags much
  refine ⟨⟨_, bok_step h.ok hn w flags most much, hs.fd.trans h.fd, hs.w⟩, ?_, ?_⟩
  · rw [hs.t, hio.1]; simp only [InK]; omega
  · rw [hs.t, hio.2]; simp only [InK]; omega
theorem FrI.put {n : Nat} {X : BfA} {w : WA} {l : Nat → List UInt8} (h : FrI n X w l) (bs : List UInt8) : FrI n X (writeR w 1 bs).2 (updL l 0 (l 0 ++ bs.take (n - (l 0).length))) :=
  { h with w := (writeR_pr h.w (k := 1) (by omega) bs).2 }
theorem wrB_fd (x : BfA) (now : Int) (bs : List UInt8) : (wrB x now bs).fd = x.fd := by
  unfold wrB
  repeat' split
  all_goals rfl
theorem readB_fd (x : BfA) (m : Int) : (readB x m).fd = x.fd := by unfold readB; split <;> rfl
theorem fr_may : mayB (rts r0 r0) = true := by decide +kernel
theorem lw_44 (m : Int) : lwB 4096 4096 m = m := by unfold lwB; rw [if_neg (by decide), if_neg (by decide)]
set_option maxHeartbeats 2000000 in
theorem lfree_ct (L : List SP) (hF : Rd L 0 0 flV) (cp : Int) (ia : Option Addr) (ic : Nat) (ins : List UInt8) (hI : RdS L 1 ia ins.length (bsl ins)) (hic : ins.length ≤ ic) (oa : Option Addr) (oc : Nat) (outs : List UInt8) (hO : RdS L 1 oa outs.length (bsl outs)) (hoc : outs.length ≤ oc) (fl : Int) (hfl : InK .i64 fl) : Ct Tryd.prog 6 #[.int .i64 cp, .slice ia ins.length ic, .slice oa outs.length oc, .int .i64 fl] (L) (fun _ : Unit => .bool true) (fun _ : Unit => L) := by
  refine Ct.of (vs := [.int .i64 cp, .slice ia ins.length ic, .slice oa outs.length oc, .int .i64 fl]) Tryd.func6 rfl rfl [(0, .int .i64 cp), (1, .slice ia ins.length ic), (2, .slice oa outs.length oc), (3, .int .i64 fl)] (by repeat (first | exact trivial | refine ⟨rfl, ?_⟩)) ?_
  intro E
  show Hd E 143 _ _ _ _
  refine Hd.seq (fun K1 hK1 => ?_)
  refine Hd.region ?_
  refine Hd.yv (y_assign rfl) ?_
  refine Hd.nil ?_
  refine Hd.slots [(0, _), (1, _), (2, _), (3, _)] ⟨rfl, rfl, rfl, rfl, trivial⟩ ?_
  refine Hd.toK hK1 ?_
  refine Hd.seq (fun K2 hK2 => ?_)
  refine Hd.region ?_
  refine Hd.callE rfl fk7 (alive27_ct _ ?hF) (Ent.sep enn) ?_
  case hF => exact Rd.mono hF (Ent.sep enn)
  intro _
  refine Hd.yv (y_assign rfl) ?_
  refine Hd.nil ?_
  refine Hd.slots [(0, _), (1, _), (2, _), (3, _), (9, _)] ⟨rfl, rfl, rfl, rfl, rfl, trivial⟩ ?_
  refine Hd.toK hK2 ?_
  refine Hd.seq (fun K3 hK3 => ?_)
  refine Hd.seq (fun K4 hK4 => ?_)
  refine Hd.region ?_
  refine Hd.yv (y_move rfl) ?_
  refine Hd.yv (y_lss rfl rfl) ?_
  refine Hd.yv (y_move rfl) ?_
  apply Hd.org 3 26 29 [(0, _), (1, _), (2, _), (3, _), (9, _)] rfl ⟨rfl, rfl, rfl, rfl, rfl, trivial⟩
  · intro hg2_26
    try simp only [decide_eq_true_eq, decide_eq_false_iff_not, Bool.and_eq_true, Bool.or_eq_true, Bool.and_eq_false_iff, Bool.or_eq_false_iff, Bool.not_eq_true', Bool.not_eq_false', Bool.not_eq_true, Bool.not_eq_false, Int.not_lt, Int.not_le, Decidable.not_not, ne_eq] at hg2_26
    simp only [List.take]
    refine Hd.ng rfl rfl rfl ?_
    refine Hd.ng rfl rfl rfl ?_
    first | (refine Hd.yv (y_pickT rfl rfl) ?_) | (refine Hd.yv (y_pickF rfl rfl) ?_) | (refine Hd.yv (y_pickb rfl rfl rfl) ?_) | (refine Hd.yv (y_pick rfl rfl rfl) ?_)
    refine Hd.nil ?_
    exact Hd.mend (by repeat (first | exact trivial | refine ⟨rfl, ?_⟩)) (Ent.sep enn)
  · intro hg2_26
    try simp only [decide_eq_true_eq, decide_eq_false_iff_not, Bool.and_eq_true, Bool.or_eq_true, Bool.and_eq_false_iff, Bool.or_eq_false_iff, Bool.not_eq_true', Bool.not_eq_false', Bool.not_eq_true, Bool.not_eq_false, Int.not_lt, Int.not_le, Decidable.not_not, ne_eq] at hg2_26
    simp only [List.take]
    refine Hd.yg rfl rfl (y_move rfl) ?_
    refine Hd.yg rfl rfl (y_gtr rfl rfl) ?_
    first | (refine Hd.yv (y_pickT rfl rfl) ?_) | (refine Hd.yv (y_pickF rfl rfl) ?_) | (refine Hd.yv (y_pickb rfl rfl rfl) ?_) | (refine Hd.yv (y_pick rfl rfl rfl) ?_)
    refine Hd.nil ?_
    exact Hd.mend (by repeat (first | exact trivial | refine ⟨rfl, ?_⟩)) (Ent.sep enn)
  simp only [List.drop]
  refine Hd.yv (y_move rfl) ?_
  apply Hd.org 4 30 34 [(0, _), (1, _), (2, _), (3, _), (9, _)] rfl ⟨rfl, rfl, rfl, rfl, rfl, trivial⟩
  · intro hg2_30
    try simp only [decide_eq_true_eq, decide_eq_false_iff_not, Bool.and_eq_true, Bool.or_eq_true, Bool.and_eq_false_iff, Bool.or_eq_false_iff, Bool.not_eq_true', Bool.not_eq_false', Bool.not_eq_true, Bool.not_eq_false, Int.not_lt, Int.not_le, Decidable.not_not, ne_eq] at hg2_30
    simp only [List.take]
    refine Hd.ng rfl rfl rfl ?_
    refine Hd.ng rfl rfl rfl ?_
    refine Hd.ng rfl rfl rfl ?_
    first | (refine Hd.yv (y_pickT rfl rfl) ?_) | (refine Hd.yv (y_pickF rfl rfl) ?_) | (refine Hd.yv (y_pickb rfl rfl rfl) ?_) | (refine Hd.yv (y_pick rfl rfl rfl) ?_)
    refine Hd.nil ?_
    exact Hd.mend (by repeat (first | exact trivial | refine ⟨rfl, ?_⟩)) (Ent.sep enn)
  · intro hg2_30
    try simp only [decide_eq_true_eq, decide_eq_false_iff_not, Bool.and_eq_true, Bool.or_eq_true, Bool.and_eq_false_iff, Bool.or_eq_false_iff, Bool.not_eq_true', Bool.not_eq_false', Bool.not_eq_true, Bool.not_eq_false, Int.not_lt, Int.not_le, Decidable.not_not, ne_eq] at hg2_30
    simp only [List.take]
    refine Hd.yg rfl rfl (y_move rfl) ?_
    refine Hd.yg rfl rfl (y_len Tryd.underlying35 rfl) ?_
    refine Hd.yg rfl rfl (y_gtr rfl rfl) ?_
    first | (refine Hd.yv (y_pickT rfl rfl) ?_) | (refine Hd.yv (y_pickF rfl rfl) ?_) | (refine Hd.yv (y_pickb rfl rfl rfl) ?_) | (refine Hd.yv (y_pick rfl rfl rfl) ?_)
    refine Hd.nil ?_
    exact Hd.mend (by repeat (first | exact trivial | refine ⟨rfl, ?_⟩)) (Ent.sep enn)
  simp only [List.drop]
  refine Hd.yv (y_move rfl) ?_
  apply Hd.org 4 35 39 [(0, _), (1, _), (2, _), (3, _), (9, _)] rfl ⟨rfl, rfl, rfl, rfl, rfl, trivial⟩
  · intro hg2_35
    try simp only [decide_eq_true_eq, decide_eq_false_iff_not, Bool.and_eq_true, Bool.or_eq_true, Bool.and_eq_false_iff, Bool.or_eq_false_iff, Bool.not_eq_true', Bool.not_eq_false', Bool.not_eq_true, Bool.not_eq_false, Int.not_lt, Int.not_le, Decidable.not_not, ne_eq] at hg2_35
    simp only [List.take]
    refine Hd.ng rfl rfl rfl ?_
    refine Hd.ng rfl rfl rfl ?_
    refine Hd.ng rfl rfl rfl ?_
    first | (refine Hd.yv (y_pickT rfl rfl) ?_) | (refine Hd.yv (y_pickF rfl rfl) ?_) | (refine Hd.yv (y_pickb rfl rfl rfl) ?_) | (refine Hd.yv (y_pick rfl rfl rfl) ?_)
    refine Hd.nil ?_
    exact Hd.mend (by repeat (first | exact trivial | refine ⟨rfl, ?_⟩)) (Ent.sep enn)
  · intro hg2_35
    try simp only [decide_eq_true_eq, decide_eq_false_iff_not, Bool.and_eq_true, Bool.or_eq_true, Bool.and_eq_false_iff, Bool.or_eq_false_iff, Bool.not_eq_true', Bool.not_eq_false', Bool.not_eq_true, Bool.not_eq_false, Int.not_lt, Int.not_le, Decidable.not_not, ne_eq] at hg2_35
    simp only [List.take]
    refine Hd.yg rfl rfl (y_move rfl) ?_
    refine Hd.yg rfl rfl (y_len Tryd.underlying35 rfl) ?_
    refine Hd.yg rfl rfl (y_gtr rfl rfl) ?_
    first | (refine Hd.yv (y_pickT rfl rfl) ?_) | (refine Hd.yv (y_pickF rfl rfl) ?_) | (refine Hd.yv (y_pickb rfl rfl rfl) ?_) | (refine Hd.yv (y_pick rfl rfl rfl) ?_)
    refine Hd.nil ?_
    exact Hd.mend (by repeat (first | exact trivial | refine ⟨rfl, ?_⟩)) (Ent.sep enn)
  simp only [List.drop]
  refine Hd.yv (y_move rfl) ?_
  apply Hd.org 3 40 43 [(0, _), (1, _), (2, _), (3, _), (9, _)] rfl ⟨rfl, rfl, rfl, rfl, rfl, trivial⟩
  · intro hg2_40
    try simp only [decide_eq_true_eq, decide_eq_false_iff_not, Bool.and_eq_true, Bool.or_eq_true, Bool.and_eq_false_iff, Bool.or_eq_false_iff, Bool.not_eq_true', Bool.not_eq_false', Bool.not_eq_true, Bool.not_eq_false, Int.not_lt, Int.not_le, Decidable.not_not, ne_eq] at hg2_40
    simp only [List.take]
    refine Hd.ng rfl rfl rfl ?_
    refine Hd.ng rfl rfl rfl ?_
    first | (refine Hd.yv (y_pickT rfl rfl) ?_) | (refine Hd.yv (y_pickF rfl rfl) ?_) | (refine Hd.yv (y_pickb rfl rfl rfl) ?_) | (refine Hd.yv (y_pick rfl rfl rfl) ?_)
    refine Hd.nil ?_
    exact Hd.mend (by repeat (first | exact trivial | refine ⟨rfl, ?_⟩)) (Ent.sep enn)
  · intro hg2_40
    try simp only [decide_eq_true_eq, decide_eq_false_iff_not, Bool.and_eq_true, Bool.or_eq_true, Bool.and_eq_false_iff, Bool.or_eq_false_iff, Bool.not_eq_true', Bool.not_eq_false', Bool.not_eq_true, Bool.not_eq_false, Int.not_lt, Int.not_le, Decidable.not_not, ne_eq] at hg2_40
    simp only [List.take]
    refine Hd.yg rfl rfl (y_move rfl) ?_
    refine Hd.yg rfl rfl (y_not rfl) ?_
    first | (refine Hd.yv (y_pickT rfl rfl) ?_) | (refine Hd.yv (y_pickF rfl rfl) ?_) | (refine Hd.yv (y_pickb rfl rfl rfl) ?_) | (refine Hd.yv (y_pick rfl rfl rfl) ?_)
    refine Hd.nil ?_
    exact Hd.mend (by repeat (first | exact trivial | refine ⟨rfl, ?_⟩)) (Ent.sep enn)
  simp only [List.drop]
  refine Hd.nil ?_
  refine Hd.slots [(0, _), (1, _), (2, _), (3, _), (9, _), (43, _)] ⟨rfl, rfl, rfl, rfl, rfl, rfl, trivial⟩ ?_
  refine Hd.toK hK4 ?_
  refine Hd.cond rfl (fun hc0 => ?_) (fun hc0 => ?_)
  ·
    try simp only [decide_eq_true_eq, decide_eq_false_iff_not, Bool.and_eq_true, Bool.or_eq_true, Bool.and_eq_false_iff, Bool.or_eq_false_iff, Bool.not_eq_true', Bool.not_eq_false', Bool.not_eq_true, Bool.not_eq_false, Int.not_lt, Int.not_le, Decidable.not_not, ne_eq] at hc0
    refine Hd.seq (fun K5 hK5 => ?_)
    refine Hd.region ?_
    refine Hd.yv (y_move rfl) ?_
    refine Hd.yv (y_assign rfl) ?_
    refine Hd.nil ?_
    refine Hd.slots [(8, _)] ⟨rfl, trivial⟩ ?_
    refine Hd.toK hK5 ?_
    refine Hd.ret ?_
    refine Hd.thenRet ?_
    clear hK1 hK2 hK3 hK4 hK5
    exact Hd.ret1 rfl () (by first | rfl | (simp only [*]; done) | (simp [*]; done)) (Ent.sep enn)
  ·
    try simp only [decide_eq_true_eq, decide_eq_false_iff_not, Bool.and_eq_true, Bool.or_eq_true, Bool.and_eq_false_iff, Bool.or_eq_false_iff, Bool.not_eq_true', Bool.not_eq_false', Bool.not_eq_true, Bool.not_eq_false, Int.not_lt, Int.not_le, Decidable.not_not, ne_eq] at hc0
    have hcp : (1 ≤ cp ∧ cp ≤ 500) ∧ ins.length ≤ 300 ∧ outs.length ≤ 300 := by omega
    clear hc0
    obtain ⟨⟨hc1a, hc1b⟩, hil, hol⟩ := hcp
    obtain ⟨n, rfl⟩ : ∃ n : Nat, cp = (n : Int) := ⟨cp.toNat, by omega⟩
    refine Hd.skip ?_
    refine Hd.toK hK3 ?_
    refine Hd.seq (fun K6 hK6 => ?_)
    refine Hd.region ?_
    refine Hd.yv (y_move rfl) ?_
    refine Hd.callE rfl fk8 (few_ct _ n 0 (by omega) (by omega) (by decide)) (Ent.sep enn) ?_
    rintro ⟨wb, b, lb⟩
    dsimp only
    rw [frW_0]
    refine Hd.yv (y_move rfl) ?_
    refine Hd.yv (y_extract rfl rfl) ?_
    refine Hd.yv (y_extract rfl rfl) ?_
    refine Hd.yv (y_extract rfl rfl) ?_
    refine Hd.yv (y_assign rfl) ?_
    refine Hd.yv (y_assign rfl) ?_
    refine Hd.yv (y_assign rfl) ?_
    refine Hd.nil ?_
    refine Hd.slots [(0, _), (1, _), (2, _), (3, _), (9, _), (10, _), (11, _), (12, _)] ⟨rfl, rfl, rfl, rfl, rfl, rfl, rfl, rfl, trivial⟩ ?_
    refine Hd.toK hK6 ?_
    refine Hd.seq (fun K7 hK7 => ?_)
    refine Hd.region ?_
    refine Hd.callE rfl fk23 (wnew_ct _) (Ent.sep enn) ?_
    intro wb2
    refine Hd.yv (y_assign rfl) ?_
    refine Hd.nil ?_
    refine Hd.slots [(0, _), (1, _), (2, _), (3, _), (9, _), (10, _), (11, _), (12, _), (13, _)] ⟨rfl, rfl, rfl, rfl, rfl, rfl, rfl, rfl, rfl, trivial⟩ ?_
    refine Hd.toK hK7 ?_
    refine Hd.seq (fun K8 hK8 => ?_)
    refine Hd.region ?_
    refine Hd.yv (y_move rfl) ?_
    refine Hd.yv (y_move rfl) ?_
    refine Hd.callE rfl fk24 (pair_ct _ wb2 newA n (by omega) (by omega)) (Ent.sep enn) ?_
    intro _
    refine Hd.nil ?_
    refine Hd.slots [(1, _), (2, _), (3, _), (9, _), (10, _), (11, _), (12, _), (13, _)] ⟨rfl, rfl, rfl, rfl, rfl, rfl, rfl, rfl, trivial⟩ ?_
    refine Hd.toK hK8 ?_
    refine Hd.seq (fun K9 hK9 => ?_)
    refine Hd.region ?_
    refine Hd.yv (y_move rfl) ?_
    refine Hd.callE rfl fk25 (bnew_ct _ wb2 (pairA n) 0 (op_pr (pr_new n))) (Ent.sep enn) ?_
    intro b2
    refine Hd.yv (y_move rfl) ?_
    refine Hd.yv (y_extract rfl rfl) ?_
    refine Hd.yv (y_extract rfl rfl) ?_
    refine Hd.yv (y_assign rfl) ?_
    refine Hd.yv (y_assign rfl) ?_
    refine Hd.nil ?_
    refine Hd.slots [(1, _), (2, _), (3, _), (9, _), (10, _), (11, _), (12, _), (13, _), (14, _), (15, _)] ⟨rfl, rfl, rfl, rfl, rfl, rfl, rfl, rfl, rfl, rfl, trivial⟩ ?_
    refine Hd.toK hK9 ?_
    refine Hd.seq (fun K10 hK10 => ?_)
    refine Hd.region ?_
    refine Hd.yv (y_build (vs := []) rfl (by first | exact bd6_61 .. | kernel_rfl)) ?_
    refine Hd.yv (y_build (vs := []) rfl (by first | exact bd6_62 .. | kernel_rfl)) ?_
    refine Hd.callE rfl fk17 (newg_ct _ (rts r0 r0) fr_may 0 in0) (Ent.sep enn) ?_
    rintro ⟨gb, s⟩
    dsimp only
    refine Hd.pure (fun hs => ?_)
    have h0 : (s 0).isSome = false := hs 0 (by decide)
    have h1 : (s 1).isSome = false := hs 1 (by decide)
    have hl0 : ∀ (m : Int) (x y : Nat → BkA), lvA ⟨b, noS, some gb⟩ ⟨s, m⟩ x y 0 = 4096 := fun m x y => lv0_b (g := some gb) (G := ⟨s, m⟩) (k := 0) (c := false) (d := false) rfl h0 x y
    have hl1 : ∀ (m : Int) (x y : Nat → BkA), lvA ⟨b, noS, some gb⟩ ⟨s, m⟩ x y 1 = 4096 := fun m x y => lv0_b (g := some gb) (G := ⟨s, m⟩) (k := 1) (c := false) (d := false) rfl h1 x y
    refine Hd.yv (y_move rfl) ?_
    refine Hd.yv (y_extract rfl rfl) ?_
    refine Hd.yv (y_extract rfl rfl) ?_
    refine Hd.yv (y_assign rfl) ?_
    refine Hd.yv (y_assign rfl) ?_
    refine Hd.nil ?_
    refine Hd.slots [(1, _), (2, _), (3, _), (9, _), (10, _), (11, _), (12, _), (13, _), (14, _), (15, _), (16, _), (17, _)] ⟨rfl, rfl, rfl, rfl, rfl, rfl, rfl, rfl, rfl, rfl, rfl, rfl, trivial⟩ ?_
    refine Hd.toK hK10 ?_
    refine Hd.seq (fun K11 hK11 => ?_)
    refine Hd.seq (fun K12 hK12 => ?_)
    refine Hd.region ?_
    refine Hd.yv (y_move rfl) ?_
    refine Hd.yv (y_not rfl) ?_
    refine Hd.yv (y_move rfl) ?_
    refine Hd.yg rfl rfl (y_move rfl) ?_
    refine Hd.yg rfl rfl (y_to (y_neq rfl rfl) (congrArg Value.bool (decide_eq_false ((by simp))))) ?_
    first | (refine Hd.yv (y_pickT rfl rfl) ?_) | (refine Hd.yv (y_pickF rfl rfl) ?_) | (refine Hd.yv (y_pickb rfl rfl rfl) ?_) | (refine Hd.yv (y_pick rfl rfl rfl) ?_)
    refine Hd.yv (y_move rfl) ?_
    refine Hd.yg rfl rfl (y_move rfl) ?_
    refine Hd.yg rfl rfl (y_to (y_neq rfl rfl) (congrArg Value.bool (decide_eq_false ((by simp))))) ?_
    first | (refine Hd.yv (y_pickT rfl rfl) ?_) | (refine Hd.yv (y_pickF rfl rfl) ?_) | (refine Hd.yv (y_pickb rfl rfl rfl) ?_) | (refine Hd.yv (y_pick rfl rfl rfl) ?_)
    refine Hd.yv (y_move rfl) ?_
    refine Hd.yg rfl rfl (y_move rfl) ?_
    refine Hd.yg rfl rfl (y_move rfl) ?_
    refine Hd.unguard rfl rfl ?_
    refine Hd.callE rfl fk19 (join_ct _ lb gb ⟨b, noS, none⟩ rfl ⟨s, 0⟩ (by show (0 : Int) ≤ 0; omega) (by show (0 : Int) ≤ 1000; omega)) (Ent.sep enn) ?_
    intro _
    refine Hd.yg rfl rfl (y_to (y_neq rfl rfl) (congrArg Value.bool (decide_eq_false ((by simp))))) ?_
    first | (refine Hd.yv (y_pickT rfl rfl) ?_) | (refine Hd.yv (y_pickF rfl rfl) ?_) | (refine Hd.yv (y_pickb rfl rfl rfl) ?_) | (refine Hd.yv (y_pick rfl rfl rfl) ?_)
    refine Hd.nil ?_
    refine Hd.slots [(1, _), (2, _), (3, _), (9, _), (10, _), (11, _), (13, _), (14, _), (81, _)] ⟨rfl, rfl, rfl, rfl, rfl, rfl, rfl, rfl, rfl, trivial⟩ ?_
    refine Hd.toK hK12 ?_
    refine Hd.condF rfl ?_
    refine Hd.skip ?_
    refine Hd.toK hK11 ?_
    refine Hd.seq (fun K13 hK13 => ?_)
    refine Hd.region ?_
    refine Hd.yv (y_move rfl) ?_
    refine Hd.callE rfl fk26 (enable_ct _ b2 wb2 (newB 0) (tm_new 0) 0 2 in0) (Ent.sep enn) ?_
    intro _
    refine Hd.nil ?_
    refine Hd.slots [(1, _), (2, _), (3, _), (9, _), (10, _), (11, _), (13, _), (14, _)] ⟨rfl, rfl, rfl, rfl, rfl, rfl, rfl, rfl, trivial⟩ ?_
    refine Hd.toK hK13 ?_
    refine Hd.seq (fun K14 hK14 => ?_)
    refine Hd.seq (fun K15 hK15 => ?_)
    refine Hd.heap (LgL lb ⟨b, noS, some gb⟩ ⟨s, 0 + 1⟩ dmX (ngX 0 (rts r0 r0)) (BufP b wb frX :: WorldP wb (pairA n) :: BufP b2 wb2 frX :: WorldP wb2 (pairA n) :: L)) (fun q t => ?_) ?_
    · refine lg_gr rfl q ?_
      have t2 := sl_no (x := dmX) q t
      exact Ent.sep (.pick pkk (.pick pkk (.pick pkk (.pick pkk (.pick pkk (.pick pkk enn)))))) q t2
    have hY : ∀ k, BkOk (ngX 0 (rts r0 r0) k) := gv_con (fun _ => dum_ok) in0 fr_may (rts_far _ _)
    refine Hd.region ?_
    refine Hd.yv (y_assign rfl) ?_
    refine Hd.nil ?_
    refine Hd.slots [(1, _), (2, _), (3, _), (9, _), (10, _), (11, _), (13, _), (14, _), (18, _)] ⟨rfl, rfl, rfl, rfl, rfl, rfl, rfl, rfl, rfl, trivial⟩ ?_
    refine Hd.toK hK15 ?_
    refine Hd.block ?_
    refine Hd.loopK (ι := Nat × (Nat → BkA) × (Nat → BkA) × BfA × WA × (Nat → List UInt8)) [(1, _), (2, _), (3, _), (9, _), (10, _), (11, _), (13, _), (14, _)] (fun q_ => [(18, .int .i64 (q_.1 : Int))]) (fun q_ => pu (q_.1 ≤ 3 ∧ ConOk q_.2.1 q_.2.2.1 ∧ FrI n q_.2.2.2.1 q_.2.2.2.2.1 q_.2.2.2.2.2) :: LgL lb ⟨b, noS, some gb⟩ ⟨s, 0 + 1⟩ q_.2.1 q_.2.2.1 (BufP b wb q_.2.2.2.1 :: WorldP wb q_.2.2.2.2.1 :: BufP b2 wb2 q_.2.2.2.1 :: WorldP wb2 q_.2.2.2.2.1 :: L)) (fun q_ => 3 - q_.1) (0, dmX, ngX 0 (rts r0 r0), frX, pairA n, fun _ => []) (by repeat (first | exact trivial | refine ⟨rfl, ?_⟩)) (by repeat (first | exact trivial | refine ⟨rfl, ?_⟩)) (Ent.sep (.pure ⟨Nat.zero_le _, ⟨fun _ => dum_ok, hY⟩, ⟨ex_b0, rfl, pr_new n⟩⟩ enn)) ?_
    rintro ⟨i, x, y, X, w, l⟩
    try dsimp only
    refine Hd.pure (fun hp0 => ?_)
    try dsimp only at hp0
    refine Hd.seq (fun K16 hK16 => ?_)
    refine Hd.seq (fun K17 hK17 => ?_)
    refine Hd.region ?_
    refine Hd.yv (y_move rfl) ?_
    refine Hd.yv (y_lss rfl rfl) ?_
    refine Hd.nil ?_
    refine Hd.slots [(1, _), (2, _), (3, _), (9, _), (10, _), (11, _), (13, _), (14, _), (18, _), (85, _)] ⟨rfl, rfl, rfl, rfl, rfl, rfl, rfl, rfl, rfl, rfl, trivial⟩ ?_
    refine Hd.toK hK17 ?_
    refine Hd.cond rfl (fun hc2 => ?_) (fun hc2 => ?_)
    ·
      try simp only [decide_eq_true_eq, decide_eq_false_iff_not, Bool.and_eq_true, Bool.or_eq_true, Bool.and_eq_false_iff, Bool.or_eq_false_iff, Bool.not_eq_true', Bool.not_eq_false', Bool.not_eq_true, Bool.not_eq_false, Int.not_lt, Int.not_le, Decidable.not_not, ne_eq] at hc2
      obtain ⟨_, hC, hI0⟩ := hp0
      have hi3 : i < 3 := by omega
      have hni : InK .u64 (i : Int) := by simp only [InK]; omega
      obtain ⟨w1, hw1⟩ : ∃ w1, (writeR w 1 ins).2 = w1 := ⟨_, rfl⟩
      obtain ⟨l1, hI1⟩ : ∃ l1, FrI n X w1 l1 := ⟨_, by rw [← hw1]; exact hI0.put ins⟩
      obtain ⟨X1, hX1⟩ : ∃ X1, wrB X 0 outs = X1 := ⟨_, rfl⟩
      have hI2 : FrI n X1 w1 l1 := ⟨by rw [← hX1]; exact bok_put hI1.ok in0 outs, by rw [← hX1, wrB_fd]; exact hI1.fd, hI1.w⟩
      refine Hd.skip ?_
      refine Hd.toK hK16 ?_
      refine Hd.seq (fun K18 hK18 => ?_)
      refine Hd.block ?_
      refine Hd.seq (fun K19 hK19 => ?_)
      refine Hd.region ?_
      refine Hd.yv (y_move rfl) ?_
      refine Hd.yv (y_move rfl) ?_
      refine Hd.callE rfl fk10 (wwrite_ct _ wb w 1 ia ins.length ic ins rfl ?hA (by omega) hic) (Ent.sep enn) ?_
      case hA => exact RdS.mono hI (Ent.sep enn)
      intro _
      refine Hd.nil ?_
      refine Hd.slots [(1, _), (2, _), (3, _), (9, _), (10, _), (11, _), (13, _), (14, _), (18, _)] ⟨rfl, rfl, rfl, rfl, rfl, rfl, rfl, rfl, rfl, trivial⟩ ?_
      refine Hd.toK hK19 ?_
      refine Hd.seq (fun K20 hK20 => ?_)
      refine Hd.region ?_
      refine Hd.yv (y_move rfl) ?_
      refine Hd.yv (y_move rfl) ?_
      refine Hd.callE rfl fk10 (wwrite_ct _ wb2 w 1 ia ins.length ic ins rfl ?hA (by omega) hic) (Ent.sep enn) ?_
      case hA => exact RdS.mono hI (Ent.sep enn)
      intro _
      rw [hw1]
      refine Hd.nil ?_
      refine Hd.slots [(1, _), (2, _), (3, _), (9, _), (10, _), (11, _), (13, _), (14, _), (18, _)] ⟨rfl, rfl, rfl, rfl, rfl, rfl, rfl, rfl, rfl, trivial⟩ ?_
      refine Hd.toK hK20 ?_
      refine Hd.seq (fun K21 hK21 => ?_)
      refine Hd.region ?_
      refine Hd.yv (y_move rfl) ?_
      refine Hd.callE rfl fk12 (lbuf_ct _ lb ⟨b, noS, some gb⟩) (Ent.sep enn) ?_
      intro _
      refine Hd.yv (y_move rfl) ?_
      refine Hd.callE rfl fk27 (bwrite_ct _ b wb X hI0.ok.tm 0 in0 oa outs.length oc outs rfl ?hA hoc (by omega)) (Ent.sep enn) ?_
      case hA => exact RdS.mono hO (Ent.sep enn)
      intro _
      refine Hd.nil ?_
      refine Hd.slots [(1, _), (2, _), (3, _), (9, _), (10, _), (11, _), (13, _), (14, _), (18, _)] ⟨rfl, rfl, rfl, rfl, rfl, rfl, rfl, rfl, rfl, trivial⟩ ?_
      refine Hd.toK hK21 ?_
      refine Hd.seq (fun K22 hK22 => ?_)
      refine Hd.region ?_
      refine Hd.yv (y_move rfl) ?_
      refine Hd.yv (y_move rfl) ?_
      refine Hd.callE rfl fk27 (bwrite_ct _ b2 wb2 X hI0.ok.tm 0 in0 oa outs.length oc outs rfl ?hA hoc (by omega)) (Ent.sep enn) ?_
      case hA => exact RdS.mono hO (Ent.sep enn)
      intro _
      rw [hX1]
      refine Hd.nil ?_
      refine Hd.slots [(1, _), (2, _), (3, _), (9, _), (10, _), (11, _), (13, _), (14, _), (18, _)] ⟨rfl, rfl, rfl, rfl, rfl, rfl, rfl, rfl, rfl, trivial⟩ ?_
      refine Hd.toK hK22 ?_
      refine Hd.seq (fun K23 hK23 => ?_)
      refine Hd.region ?_
      refine Hd.yv (y_move rfl) ?_
      refine Hd.yv (y_move rfl) ?_
      first | (refine Hd.yv (y_convn rfl Tryd.underlying3 Tryd.underlying22 (by simp only [InK]; omega)) ?_) | (refine Hd.yv (y_conv rfl Tryd.underlying3 Tryd.underlying22) ?_)
      refine Hd.callE rfl fk16 (lwants_ct _ lb wb ⟨b, noS, some gb⟩ ⟨s, 0 + 1⟩ x y hC X1 (i : Int) hni ?hA) (Ent.sep enn) ?_
      case hA => exact Rd.mono hF (Ent.sep enn)
      intro _
      rw [lwK_b, hl0, hl1, lw_44]
      refine Hd.yv (y_assign rfl) ?_
      refine Hd.nil ?_
      refine Hd.slots [(1, _), (2, _), (3, _), (9, _), (10, _), (11, _), (13, _), (14, _), (18, _), (19, _)] ⟨rfl, rfl, rfl, rfl, rfl, rfl, rfl, rfl, rfl, rfl, trivial⟩ ?_
      refine Hd.toK hK23 ?_
      refine Hd.seq (fun K24 hK24 => ?_)
      refine Hd.bufLen (b := b) (wb := wb) (x := X1) pkk (fun hlen => ?_)
      obtain ⟨σ, hσ⟩ : ∃ σ, stepS X1 w1 (i : Int) fl 4096 4096 = σ := ⟨_, rfl⟩
      obtain ⟨⟨l2, hI3⟩, hti, hto⟩ := hI2.step hni fl 4096 4096 hlen.2
      rw [hσ] at hI3 hti hto
      have hC2 : ConOk (cmA (i : Int) x) (cmA (i : Int) y) := ⟨cmA_ok hC.x hni, cmA_ok hC.y hni⟩
      have hls : lsS ⟨b, noS, some gb⟩ ⟨s, 0 + 1⟩ (cmA (i : Int) x) (cmA (i : Int) y) X1 w1 (i : Int) fl = σ := by
        rw [← hσ, ← step_and]
        exact ls_of (hl0 _ _ _) (hl1 _ _ _) (by rw [lw_44])
      obtain ⟨X3, hX3⟩ : ∃ X3, readB σ.x 7 = X3 := ⟨_, rfl⟩
      have hI4 : FrI n X3 σ.w l2 := ⟨by rw [← hX3]; exact bok_get hI3.ok 7, by rw [← hX3, readB_fd]; exact hI3.fd, hI3.w⟩
      obtain ⟨x3, hx3⟩ : ∃ x3, stX (i : Int) σ.t (cmA (i : Int) x) = x3 := ⟨_, rfl⟩
      obtain ⟨y3, hy3⟩ : ∃ y3, stX (i : Int) σ.t (cmA (i : Int) y) = y3 := ⟨_, rfl⟩
      have hC3 : ConOk x3 y3 := ⟨by rw [← hx3]; exact stX_ok hC2.x hni σ.t, by rw [← hy3]; exact stX_ok hC2.y hni σ.t⟩
      have hC4 : ConOk (cmA (i : Int) x3) (cmA (i : Int) y3) := ⟨cmA_ok hC3.x hni, cmA_ok hC3.y hni⟩
      refine Hd.region ?_
      refine Hd.yv (y_move rfl) ?_
      refine Hd.yv (y_move rfl) ?_
      first | (refine Hd.yv (y_convn rfl Tryd.underlying3 Tryd.underlying22 (by simp only [InK]; omega)) ?_) | (refine Hd.yv (y_conv rfl Tryd.underlying3 Tryd.underlying22) ?_)
      refine Hd.yv (y_move rfl) ?_
      refine Hd.callE rfl fk11 (lstep_ct _ lb wb ⟨b, noS, some gb⟩ ⟨s, 0 + 1⟩ (cmA (i : Int) x) (cmA (i : Int) y) hC2 X1 hI2.ok w1 (i : Int) fl hni ?hA σ hls hti hto) (Ent.sep enn) ?_
      case hA => exact Rd.mono hF (Ent.sep enn)
      intro _
      rw [hx3, hy3]
      refine Hd.alloc zr37 (fun b20 => ?_)
      refine Hd.storeA (us := encT σ.t) sz37 rfl rfl rfl (by simp [Value.oneCell']) pkk (by exact rfl) ?_
      refine Hd.nil ?_
      refine Hd.slots [(1, _), (2, _), (3, _), (9, _), (10, _), (11, _), (13, _), (14, _), (18, _), (19, _), (20, _)] ⟨rfl, rfl, rfl, rfl, rfl, rfl, rfl, rfl, rfl, rfl, rfl, trivial⟩ ?_
      refine Hd.toK hK24 ?_
      refine Hd.seq (fun K25 hK25 => ?_)
      refine Hd.region ?_
      refine Hd.yv (y_move rfl) ?_
      refine Hd.callE rfl fk28 (wants_ct _ b2 wb2 X1) (Ent.sep enn) ?_
      intro _
      refine Hd.yv (y_assign rfl) ?_
      refine Hd.nil ?_
      refine Hd.slots [(1, _), (2, _), (3, _), (9, _), (10, _), (11, _), (13, _), (14, _), (18, _), (19, _), (20, _), (21, _)] ⟨rfl, rfl, rfl, rfl, rfl, rfl, rfl, rfl, rfl, rfl, rfl, rfl, trivial⟩ ?_
      refine Hd.toK hK25 ?_
      refine Hd.seq (fun K26 hK26 => ?_)
      refine Hd.region ?_
      refine Hd.yv (y_move rfl) ?_
      refine Hd.yv (y_move rfl) ?_
      first | (refine Hd.yv (y_convn rfl Tryd.underlying3 Tryd.underlying22 (by simp only [InK]; omega)) ?_) | (refine Hd.yv (y_conv rfl Tryd.underlying3 Tryd.underlying22) ?_)
      refine Hd.yv (y_move rfl) ?_
      refine Hd.callE rfl fk29 (step_ct _ b2 wb2 X1 w1 hI2.ok.tm hI2.ok.hi (i : Int) fl 4096 4096 hni (by decide) (by simp [InK])) (Ent.sep enn) ?_
      intro _
      rw [hσ]
      refine Hd.alloc zr37 (fun b22 => ?_)
      refine Hd.storeA (us := encT σ.t) sz37 rfl rfl rfl (by simp [Value.oneCell']) pkk (by exact rfl) ?_
      refine Hd.nil ?_
      refine Hd.slots [(1, _), (2, _), (3, _), (9, _), (10, _), (11, _), (13, _), (14, _), (18, _), (19, _), (20, _), (21, _), (22, _)] ⟨rfl, rfl, rfl, rfl, rfl, rfl, rfl, rfl, rfl, rfl, rfl, rfl, rfl, trivial⟩ ?_
      refine Hd.toK hK26 ?_
      refine Hd.seq (fun K27 hK27 => ?_)
      refine Hd.drawsH ([LmH lb ⟨b, noS, some gb⟩, pt b20 (encT σ.t) 37, pt b22 (encT σ.t) 37]) (fun _ => true) mixed ?_
      simp only [List.length, Nat.zero_add, Nat.reduceAdd]
      refine Hd.takeH 0 rfl (by kernel_rfl) (by kernel_rfl) (by kernel_rfl) (by kernel_rfl) (y_move rfl) (fun _ _ => rfl) (Ent.sep enn) ?_
      refine Hd.takeH 1 rfl (by kernel_rfl) (by kernel_rfl) (by kernel_rfl) (by kernel_rfl) (y_move rfl) (fun _ _ => rfl) (Ent.sep enn) ?_
      refine Hd.takeH 2 rfl (by kernel_rfl) (by kernel_rfl) (by kernel_rfl) (by kernel_rfl) (y_to (y_neq rfl rfl) (congrArg Value.bool (decide_eq_false ((by simp))))) (fun _ _ => rfl) (Ent.sep enn) ?_
      refine Hd.takeH 3 rfl (by kernel_rfl) (by kernel_rfl) (by kernel_rfl) (by kernel_rfl) (y_move rfl) (fun _ _ => rfl) (Ent.sep enn) ?_
      refine Hd.takegH 4 rfl (by kernel_rfl) (by kernel_rfl) (by kernel_rfl) (by kernel_rfl) rfl rfl (y_loadn (us := encT σ.t) ag37 rfl (Rd.pt (b := b20) pkk (fun j v e => by rw [Nat.zero_add]; exact e)) (by exact sz37)) (fun _ _ => rfl) (Ent.sep enn) ?_
      refine Hd.takegH 5 rfl (by kernel_rfl) (by kernel_rfl) (by kernel_rfl) (by kernel_rfl) rfl rfl (y_loadn (us := encT σ.t) ag37 rfl (Rd.pt (b := b22) pkk (fun j v e => by rw [Nat.zero_add]; exact e)) (by exact sz37)) (fun _ _ => rfl) (Ent.sep enn) ?_
      refine Hd.takegH 6 rfl (by kernel_rfl) (by kernel_rfl) (by kernel_rfl) (by kernel_rfl) rfl rfl (y_to (v' := .bool false) (y_neq_agg rfl rfl eqt37 rfl ⟨rfl, rfl⟩) (by (simp [allEq, eqv]))) (fun _ _ => rfl) (Ent.sep enn) ?_
      first | (refine Hd.takeH 7 rfl (by kernel_rfl) (by kernel_rfl) (by kernel_rfl) (by kernel_rfl) (y_pickT rfl rfl) (fun _ _ => rfl) (Ent.sep enn) ?_) | (refine Hd.takeH 7 rfl (by kernel_rfl) (by kernel_rfl) (by kernel_rfl) (by kernel_rfl) (y_pickF rfl rfl) (fun _ _ => rfl) (Ent.sep enn) ?_) | (refine Hd.takeH 7 rfl (by kernel_rfl) (by kernel_rfl) (by kernel_rfl) (by kernel_rfl) (y_pickb rfl rfl rfl) (fun _ _ => rfl) (Ent.sep enn) ?_) | (refine Hd.takeH 7 rfl (by kernel_rfl) (by kernel_rfl) (by kernel_rfl) (by kernel_rfl) (y_pick rfl rfl rfl) (fun _ _ => rfl) (Ent.sep enn) ?_)
      refine Hd.takeH 8 rfl (by kernel_rfl) (by kernel_rfl) (by kernel_rfl) (by kernel_rfl) (y_move rfl) (fun _ _ => rfl) (Ent.sep enn) ?_
      refine Hd.takegH 9 rfl (by kernel_rfl) (by kernel_rfl) (by kernel_rfl) (by kernel_rfl) rfl rfl (y_move rfl) (fun _ _ => rfl) (Ent.sep enn) ?_
      refine Hd.takegH 13 rfl (by kernel_rfl) (by kernel_rfl) (by kernel_rfl) (by kernel_rfl) rfl rfl (y_move rfl) (fun _ _ => rfl) (Ent.sep enn) ?_
      refine Hd.onlyH 10 rfl (by kernel_rfl) ?_
      refine Hd.unguard rfl rfl ?_
      refine Hd.callE rfl fk12 (lbuf_ct _ lb ⟨b, noS, some gb⟩) (Ent.sep enn) ?_
      intro _
      refine Hd.nil ?_
      refine Hd.thenN ?_
      refine Hd.heldK (J := (fun _ => true)) (i := 10) (Ent.sep enn) ?_
      refine Hd.onlyH 11 rfl (by kernel_rfl) ?_
      refine Hd.unguard rfl rfl ?_
      refine Hd.callE rfl fk13 (bread_ct _ b wb σ.x 7 (by decide)) (Ent.sep enn) ?_
      rintro ⟨a5, c5⟩
      dsimp only
      rw [hX3]
      refine Hd.nil ?_
      refine Hd.thenN ?_
      refine Hd.heldK (J := (fun _ => true)) (i := 11) (Ent.sep enn) ?_
      refine Hd.eitherH 12 14 rfl rfl (by kernel_rfl) ?_ ?_
      ·
        refine Hd.yg rfl rfl (y_strOf (l := _) (by kernel_rfl) Tryd.underlying9 rfl (by (first | exact RdS.own pkk))) ?_
        refine Hd.nil ?_
        refine Hd.thenN ?_
        refine Hd.heldK (J := (fun _ => true)) (i := 12) (Ent.sep enn) ?_
        refine Hd.onlyH 14 rfl (by kernel_rfl) ?_
        refine Hd.unguard rfl rfl ?_
        refine Hd.callE rfl fk13 (bread_ct _ b2 wb2 σ.x 7 (by decide)) (Ent.sep enn) ?_
        rintro ⟨a6, c6⟩
        dsimp only
        rw [hX3]
        refine Hd.nil ?_
        refine Hd.thenN ?_
        refine Hd.heldK (J := (fun _ => true)) (i := 14) (Ent.sep enn) ?_
        refine Hd.onlyH 15 rfl (by kernel_rfl) ?_
        refine Hd.yg rfl rfl (y_strOf (l := _) (by kernel_rfl) Tryd.underlying9 rfl (by (first | exact RdS.own pkk))) ?_
        refine Hd.nil ?_
        refine Hd.thenN ?_
        refine Hd.heldK (J := (fun _ => true)) (i := 15) (Ent.sep enn) ?_
        refine Hd.takegH 16 rfl (by kernel_rfl) (by kernel_rfl) (by kernel_rfl) (by kernel_rfl) rfl rfl (y_to (y_neqstr rfl rfl) (congrArg Value.bool (decide_eq_false ((by simp))))) (fun _ _ => rfl) (Ent.sep enn) ?_
        first | (refine Hd.takeH 17 rfl (by kernel_rfl) (by kernel_rfl) (by kernel_rfl) (by kernel_rfl) (y_pickT rfl rfl) (fun _ _ => rfl) (Ent.sep enn) ?_) | (refine Hd.takeH 17 rfl (by kernel_rfl) (by kernel_rfl) (by kernel_rfl) (by kernel_rfl) (y_pickF rfl rfl) (fun _ _ => rfl) (Ent.sep enn) ?_) | (refine Hd.takeH 17 rfl (by kernel_rfl) (by kernel_rfl) (by kernel_rfl) (by kernel_rfl) (y_pickb rfl rfl rfl) (fun _ _ => rfl) (Ent.sep enn) ?_) | (refine Hd.takeH 17 rfl (by kernel_rfl) (by kernel_rfl) (by kernel_rfl) (by kernel_rfl) (y_pick rfl rfl rfl) (fun _ _ => rfl) (Ent.sep enn) ?_)
        refine Hd.takeH 18 rfl (by kernel_rfl) (by kernel_rfl) (by kernel_rfl) (by kernel_rfl) (y_move rfl) (fun _ _ => rfl) (Ent.sep enn) ?_
        refine Hd.takegH 19 rfl (by kernel_rfl) (by kernel_rfl) (by kernel_rfl) (by kernel_rfl) rfl rfl (y_move rfl) (fun _ _ => rfl) (Ent.sep enn) ?_
        refine Hd.takegH 20 rfl (by kernel_rfl) (by kernel_rfl) (by kernel_rfl) (by kernel_rfl) rfl rfl (y_move rfl) (fun _ _ => rfl) (Ent.sep enn) ?_
        first | (refine Hd.takegH 21 rfl (by kernel_rfl) (by kernel_rfl) (by kernel_rfl) (by kernel_rfl) rfl rfl (y_convn rfl Tryd.underlying3 Tryd.underlying22 (by simp only [InK]; omega)) (fun _ _ => rfl) (Ent.sep enn) ?_) | (refine Hd.takegH 21 rfl (by kernel_rfl) (by kernel_rfl) (by kernel_rfl) (by kernel_rfl) rfl rfl (y_conv rfl Tryd.underlying3 Tryd.underlying22) (fun _ _ => rfl) (Ent.sep enn) ?_)
        refine Hd.onlyH 22 rfl (by kernel_rfl) ?_
        refine Hd.unguard rfl rfl ?_
        refine Hd.callE rfl fk15 (lwhen_ct _ lb wb ⟨b, noS, some gb⟩ ⟨s, 0 + 1⟩ x3 y3 hC3 X3 (i : Int) hni ?hA) (Ent.sep enn) ?_
        case hA => exact Rd.mono hF (Ent.sep enn)
        intro _
        rw [whK_2, hl0, hl1, if_pos (.inr (by decide)), if_pos (.inr (by decide))]
        refine Hd.nil ?_
        refine Hd.thenN ?_
        refine Hd.heldK (J := (fun _ => true)) (i := 22) (Ent.sep enn) ?_
        refine Hd.takegH 23 rfl (by kernel_rfl) (by kernel_rfl) (by kernel_rfl) (by kernel_rfl) rfl rfl (y_to (y_neq rfl rfl) (congrArg Value.bool (decide_eq_false ((by simp))))) (fun _ _ => rfl) (Ent.sep enn) ?_
        first | (refine Hd.takeH 24 rfl (by kernel_rfl) (by kernel_rfl) (by kernel_rfl) (by kernel_rfl) (y_pickT rfl rfl) (fun _ _ => rfl) (Ent.sep enn) ?_) | (refine Hd.takeH 24 rfl (by kernel_rfl) (by kernel_rfl) (by kernel_rfl) (by kernel_rfl) (y_pickF rfl rfl) (fun _ _ => rfl) (Ent.sep enn) ?_) | (refine Hd.takeH 24 rfl (by kernel_rfl) (by kernel_rfl) (by kernel_rfl) (by kernel_rfl) (y_pickb rfl rfl rfl) (fun _ _ => rfl) (Ent.sep enn) ?_) | (refine Hd.takeH 24 rfl (by kernel_rfl) (by kernel_rfl) (by kernel_rfl) (by kernel_rfl) (y_pick rfl rfl rfl) (fun _ _ => rfl) (Ent.sep enn) ?_)
        refine Hd.endH (by kernel_rfl) ?_
        refine Hd.slots [(1, _), (2, _), (3, _), (9, _), (10, _), (11, _), (13, _), (14, _), (18, _), (141, _)] ⟨rfl, rfl, rfl, rfl, rfl, rfl, rfl, rfl, rfl, rfl, trivial⟩ ?_
        refine Hd.toK hK27 ?_
        refine Hd.condF rfl ?_
        refine Hd.skip ?_
        refine Hd.inB ?_
        refine Hd.toK hK18 ?_
        refine Hd.region ?_
        refine Hd.yv (y_move rfl) ?_
        first | (refine Hd.yv (y_addn rfl rfl (by simp only [InK]; omega)) ?_) | (refine Hd.yv (y_add rfl rfl) ?_)
        refine Hd.yv (y_assign rfl) ?_
        refine Hd.nil ?_
        refine Hd.slots [(1, _), (2, _), (3, _), (9, _), (10, _), (11, _), (13, _), (14, _), (18, _)] ⟨rfl, rfl, rfl, rfl, rfl, rfl, rfl, rfl, rfl, trivial⟩ ?_
        clear hK1 hK2 hK3 hK4 hK6 hK7 hK8 hK9 hK10 hK11 hK12 hK13 hK14 hK15 hK16 hK17 hK18 hK19 hK20 hK21 hK22 hK23 hK24 hK25 hK26 hK27
        refine Hd.thenN ?_
        exact Hd.again (i + 1, cmA (i : Int) x3, cmA (i : Int) y3, X3, σ.w, l2) (by show 3 - (i + 1) < 3 - i; omega) (by repeat (first | exact trivial | refine ⟨rfl, ?_⟩)) (Ent.sep (.pure ⟨by show i + 1 ≤ 3; omega, hC4, hI4⟩ enn))
      ·
        refine Hd.unguard rfl rfl ?_
        refine Hd.callE rfl fk13 (bread_ct _ b2 wb2 σ.x 7 (by decide)) (Ent.sep enn) ?_
        rintro ⟨a6, c6⟩
        dsimp only
        rw [hX3]
        refine Hd.nil ?_
        refine Hd.thenN ?_
        refine Hd.heldK (J := (fun _ => true)) (i := 14) (Ent.sep enn) ?_
        refine Hd.eitherH 12 15 rfl rfl (by kernel_rfl) ?_ ?_
        ·
          refine Hd.yg rfl rfl (y_strOf (l := _) (by kernel_rfl) Tryd.underlying9 rfl (by (first | exact RdS.own pkk))) ?_
          refine Hd.nil ?_
          refine Hd.thenN ?_
          refine Hd.heldK (J := (fun _ => true)) (i := 12) (Ent.sep enn) ?_
          refine Hd.onlyH 15 rfl (by kernel_rfl) ?_
          refine Hd.yg rfl rfl (y_strOf (l := _) (by kernel_rfl) Tryd.underlying9 rfl (by (first | exact RdS.own pkk))) ?_
          refine Hd.nil ?_
          refine Hd.thenN ?_
          refine Hd.heldK (J := (fun _ => true)) (i := 15) (Ent.sep enn) ?_
          refine Hd.takegH 16 rfl (by kernel_rfl) (by kernel_rfl) (by kernel_rfl) (by kernel_rfl) rfl rfl (y_to (y_neqstr rfl rfl) (congrArg Value.bool (decide_eq_false ((by simp))))) (fun _ _ => rfl) (Ent.sep enn) ?_
          first | (refine Hd.takeH 17 rfl (by kernel_rfl) (by kernel_rfl) (by kernel_rfl) (by kernel_rfl) (y_pickT rfl rfl) (fun _ _ => rfl) (Ent.sep enn) ?_) | (refine Hd.takeH 17 rfl (by kernel_rfl) (by kernel_rfl) (by kernel_rfl) (by kernel_rfl) (y_pickF rfl rfl) (fun _ _ => rfl) (Ent.sep enn) ?_) | (refine Hd.takeH 17 rfl (by kernel_rfl) (by kernel_rfl) (by kernel_rfl) (by kernel_rfl) (y_pickb rfl rfl rfl) (fun _ _ => rfl) (Ent.sep enn) ?_) | (refine Hd.takeH 17 rfl (by kernel_rfl) (by kernel_rfl) (by kernel_rfl) (by kernel_rfl) (y_pick rfl rfl rfl) (fun _ _ => rfl) (Ent.sep enn) ?_)
          refine Hd.takeH 18 rfl (by kernel_rfl) (by kernel_rfl) (by kernel_rfl) (by kernel_rfl) (y_move rfl) (fun _ _ => rfl) (Ent.sep enn) ?_
          refine Hd.takegH 19 rfl (by kernel_rfl) (by kernel_rfl) (by kernel_rfl) (by kernel_rfl) rfl rfl (y_move rfl) (fun _ _ => rfl) (Ent.sep enn) ?_
          refine Hd.takegH 20 rfl (by kernel_rfl) (by kernel_rfl) (by kernel_rfl) (by kernel_rfl) rfl rfl (y_move rfl) (fun _ _ => rfl) (Ent.sep enn) ?_
          first | (refine Hd.takegH 21 rfl (by kernel_rfl) (by kernel_rfl) (by kernel_rfl) (by kernel_rfl) rfl rfl (y_convn rfl Tryd.underlying3 Tryd.underlying22 (by simp only [InK]; omega)) (fun _ _ => rfl) (Ent.sep enn) ?_) | (refine Hd.takegH 21 rfl (by kernel_rfl) (by kernel_rfl) (by kernel_rfl) (by kernel_rfl) rfl rfl (y_conv rfl Tryd.underlying3 Tryd.underlying22) (fun _ _ => rfl) (Ent.sep enn) ?_)
          refine Hd.onlyH 22 rfl (by kernel_rfl) ?_
          refine Hd.unguard rfl rfl ?_
          refine Hd.callE rfl fk15 (lwhen_ct _ lb wb ⟨b, noS, some gb⟩ ⟨s, 0 + 1⟩ x3 y3 hC3 X3 (i : Int) hni ?hA) (Ent.sep enn) ?_
          case hA => exact Rd.mono hF (Ent.sep enn)
          intro _
          rw [whK_2, hl0, hl1, if_pos (.inr (by decide)), if_pos (.inr (by decide))]
          refine Hd.nil ?_
          refine Hd.thenN ?_
          refine Hd.heldK (J := (fun _ => true)) (i := 22) (Ent.sep enn) ?_
          refine Hd.takegH 23 rfl (by kernel_rfl) (by kernel_rfl) (by kernel_rfl) (by kernel_rfl) rfl rfl (y_to (y_neq rfl rfl) (congrArg Value.bool (decide_eq_false ((by simp))))) (fun _ _ => rfl) (Ent.sep enn) ?_
          first | (refine Hd.takeH 24 rfl (by kernel_rfl) (by kernel_rfl) (by kernel_rfl) (by kernel_rfl) (y_pickT rfl rfl) (fun _ _ => rfl) (Ent.sep enn) ?_) | (refine Hd.takeH 24 rfl (by kernel_rfl) (by kernel_rfl) (by kernel_rfl) (by kernel_rfl) (y_pickF rfl rfl) (fun _ _ => rfl) (Ent.sep enn) ?_) | (refine Hd.takeH 24 rfl (by kernel_rfl) (by kernel_rfl) (by kernel_rfl) (by kernel_rfl) (y_pickb rfl rfl rfl) (fun _ _ => rfl) (Ent.sep enn) ?_) | (refine Hd.takeH 24 rfl (by kernel_rfl) (by kernel_rfl) (by kernel_rfl) (by kernel_rfl) (y_pick rfl rfl rfl) (fun _ _ => rfl) (Ent.sep enn) ?_)
          refine Hd.endH (by kernel_rfl) ?_
          refine Hd.slots [(1, _), (2, _), (3, _), (9, _), (10, _), (11, _), (13, _), (14, _), (18, _), (141, _)] ⟨rfl, rfl, rfl, rfl, rfl, rfl, rfl, rfl, rfl, rfl, trivial⟩ ?_
          refine Hd.toK hK27 ?_
          refine Hd.condF rfl ?_
          refine Hd.skip ?_
          refine Hd.inB ?_
          refine Hd.toK hK18 ?_
          refine Hd.region ?_
          refine Hd.yv (y_move rfl) ?_
          first | (refine Hd.yv (y_addn rfl rfl (by simp only [InK]; omega)) ?_) | (refine Hd.yv (y_add rfl rfl) ?_)
          refine Hd.yv (y_assign rfl) ?_
          refine Hd.nil ?_
          refine Hd.slots [(1, _), (2, _), (3, _), (9, _), (10, _), (11, _), (13, _), (14, _), (18, _)] ⟨rfl, rfl, rfl, rfl, rfl, rfl, rfl, rfl, rfl, trivial⟩ ?_
          clear hK1 hK2 hK3 hK4 hK6 hK7 hK8 hK9 hK10 hK11 hK12 hK13 hK14 hK15 hK16 hK17 hK18 hK19 hK20 hK21 hK22 hK23 hK24 hK25 hK26 hK27
          refine Hd.thenN ?_
          exact Hd.again (i + 1, cmA (i : Int) x3, cmA (i : Int) y3, X3, σ.w, l2) (by show 3 - (i + 1) < 3 - i; omega) (by repeat (first | exact trivial | refine ⟨rfl, ?_⟩)) (Ent.sep (.pure ⟨by show i + 1 ≤ 3; omega, hC4, hI4⟩ enn))
        ·
          refine Hd.yg rfl rfl (y_strOf (l := _) (by kernel_rfl) Tryd.underlying9 rfl (by (first | exact RdS.own pkk))) ?_
          refine Hd.nil ?_
          refine Hd.thenN ?_
          refine Hd.heldK (J := (fun _ => true)) (i := 15) (Ent.sep enn) ?_
          refine Hd.onlyH 12 rfl (by kernel_rfl) ?_
          refine Hd.yg rfl rfl (y_strOf (l := _) (by kernel_rfl) Tryd.underlying9 rfl (by (first | exact RdS.own pkk))) ?_
          refine Hd.nil ?_
          refine Hd.thenN ?_
          refine Hd.heldK (J := (fun _ => true)) (i := 12) (Ent.sep enn) ?_
          refine Hd.takegH 16 rfl (by kernel_rfl) (by kernel_rfl) (by kernel_rfl) (by kernel_rfl) rfl rfl (y_to (y_neqstr rfl rfl) (congrArg Value.bool (decide_eq_false ((by simp))))) (fun _ _ => rfl) (Ent.sep enn) ?_
          first | (refine Hd.takeH 17 rfl (by kernel_rfl) (by kernel_rfl) (by kernel_rfl) (by kernel_rfl) (y_pickT rfl rfl) (fun _ _ => rfl) (Ent.sep enn) ?_) | (refine Hd.takeH 17 rfl (by kernel_rfl) (by kernel_rfl) (by kernel_rfl) (by kernel_rfl) (y_pickF rfl rfl) (fun _ _ => rfl) (Ent.sep enn) ?_) | (refine Hd.takeH 17 rfl (by kernel_rfl) (by kernel_rfl) (by kernel_rfl) (by kernel_rfl) (y_pickb rfl rfl rfl) (fun _ _ => rfl) (Ent.sep enn) ?_) | (refine Hd.takeH 17 rfl (by kernel_rfl) (by kernel_rfl) (by kernel_rfl) (by kernel_rfl) (y_pick rfl rfl rfl) (fun _ _ => rfl) (Ent.sep enn) ?_)
          refine Hd.takeH 18 rfl (by kernel_rfl) (by kernel_rfl) (by kernel_rfl) (by kernel_rfl) (y_move rfl) (fun _ _ => rfl) (Ent.sep enn) ?_
          refine Hd.takegH 19 rfl (by kernel_rfl) (by kernel_rfl) (by kernel_rfl) (by kernel_rfl) rfl rfl (y_move rfl) (fun _ _ => rfl) (Ent.sep enn) ?_
          refine Hd.takegH 20 rfl (by kernel_rfl) (by kernel_rfl) (by kernel_rfl) (by kernel_rfl) rfl rfl (y_move rfl) (fun _ _ => rfl) (Ent.sep enn) ?_
          first | (refine Hd.takegH 21 rfl (by kernel_rfl) (by kernel_rfl) (by kernel_rfl) (by kernel_rfl) rfl rfl (y_convn rfl Tryd.underlying3 Tryd.underlying22 (by simp only [InK]; omega)) (fun _ _ => rfl) (Ent.sep enn) ?_) | (refine Hd.takegH 21 rfl (by kernel_rfl) (by kernel_rfl) (by kernel_rfl) (by kernel_rfl) rfl rfl (y_conv rfl Tryd.underlying3 Tryd.underlying22) (fun _ _ => rfl) (Ent.sep enn) ?_)
          refine Hd.onlyH 22 rfl (by kernel_rfl) ?_
          refine Hd.unguard rfl rfl ?_
          refine Hd.callE rfl fk15 (lwhen_ct _ lb wb ⟨b, noS, some gb⟩ ⟨s, 0 + 1⟩ x3 y3 hC3 X3 (i : Int) hni ?hA) (Ent.sep enn) ?_
          case hA => exact Rd.mono hF (Ent.sep enn)
          intro _
          rw [whK_2, hl0, hl1, if_pos (.inr (by decide)), if_pos (.inr (by decide))]
          refine Hd.nil ?_
          refine Hd.thenN ?_
          refine Hd.heldK (J := (fun _ => true)) (i := 22) (Ent.sep enn) ?_
          refine Hd.takegH 23 rfl (by kernel_rfl) (by kernel_rfl) (by kernel_rfl) (by kernel_rfl) rfl rfl (y_to (y_neq rfl rfl) (congrArg Value.bool (decide_eq_false ((by simp))))) (fun _ _ => rfl) (Ent.sep enn) ?_
          first | (refine Hd.takeH 24 rfl (by kernel_rfl) (by kernel_rfl) (by kernel_rfl) (by kernel_rfl) (y_pickT rfl rfl) (fun _ _ => rfl) (Ent.sep enn) ?_) | (refine Hd.takeH 24 rfl (by kernel_rfl) (by kernel_rfl) (by kernel_rfl) (by kernel_rfl) (y_pickF rfl rfl) (fun _ _ => rfl) (Ent.sep enn) ?_) | (refine Hd.takeH 24 rfl (by kernel_rfl) (by kernel_rfl) (by kernel_rfl) (by kernel_rfl) (y_pickb rfl rfl rfl) (fun _ _ => rfl) (Ent.sep enn) ?_) | (refine Hd.takeH 24 rfl (by kernel_rfl) (by kernel_rfl) (by kernel_rfl) (by kernel_rfl) (y_pick rfl rfl rfl) (fun _ _ => rfl) (Ent.sep enn) ?_)
          refine Hd.endH (by kernel_rfl) ?_
          refine Hd.slots [(1, _), (2, _), (3, _), (9, _), (10, _), (11, _), (13, _), (14, _), (18, _), (141, _)] ⟨rfl, rfl, rfl, rfl, rfl, rfl, rfl, rfl, rfl, rfl, trivial⟩ ?_
          refine Hd.toK hK27 ?_
          refine Hd.condF rfl ?_
          refine Hd.skip ?_
          refine Hd.inB ?_
          refine Hd.toK hK18 ?_
          refine Hd.region ?_
          refine Hd.yv (y_move rfl) ?_
          first | (refine Hd.yv (y_addn rfl rfl (by simp only [InK]; omega)) ?_) | (refine Hd.yv (y_add rfl rfl) ?_)
          refine Hd.yv (y_assign rfl) ?_
          refine Hd.nil ?_
          refine Hd.slots [(1, _), (2, _), (3, _), (9, _), (10, _), (11, _), (13, _), (14, _), (18, _)] ⟨rfl, rfl, rfl, rfl, rfl, rfl, rfl, rfl, rfl, trivial⟩ ?_
          clear hK1 hK2 hK3 hK4 hK6 hK7 hK8 hK9 hK10 hK11 hK12 hK13 hK14 hK15 hK16 hK17 hK18 hK19 hK20 hK21 hK22 hK23 hK24 hK25 hK26 hK27
          refine Hd.thenN ?_
          exact Hd.again (i + 1, cmA (i : Int) x3, cmA (i : Int) y3, X3, σ.w, l2) (by show 3 - (i + 1) < 3 - i; omega) (by repeat (first | exact trivial | refine ⟨rfl, ?_⟩)) (Ent.sep (.pure ⟨by show i + 1 ≤ 3; omega, hC4, hI4⟩ enn))
    ·
      try simp only [decide_eq_true_eq, decide_eq_false_iff_not, Bool.and_eq_true, Bool.or_eq_true, Bool.and_eq_false_iff, Bool.or_eq_false_iff, Bool.not_eq_true', Bool.not_eq_false', Bool.not_eq_true, Bool.not_eq_false, Int.not_lt, Int.not_le, Decidable.not_not, ne_eq] at hc2
      refine Hd.exit ?_
      refine Hd.thenExit ?_
      refine Hd.thenExit ?_
      refine Hd.inBexit ?_
      refine Hd.toK hK14 ?_
      refine Hd.seq (fun K28 hK28 => ?_)
      refine Hd.region ?_
      refine Hd.yv (y_move rfl) ?_
      refine Hd.yv (y_assign rfl) ?_
      refine Hd.nil ?_
      refine Hd.slots [(8, _)] ⟨rfl, trivial⟩ ?_
      refine Hd.toK hK28 ?_
      refine Hd.ret ?_
      clear hK1 hK2 hK3 hK4 hK6 hK7 hK8 hK9 hK10 hK11 hK12 hK13 hK14 hK15 hK16 hK17 hK28
      exact Hd.ret1 rfl () (by first | rfl | (simp only [*]; done) | (simp [*]; done)) (Ent.sep enn)
end Lm
end Go.Proofs.YtmpemhbfgbochaaDoor
namespace Go.RX
set_option linter.unusedSimpArgs false
set_option linter.unusedVariables false
set_option linter.unnecessarySimpa false
def u8of (i : Int) : UInt8 := UInt8.ofNat i.toNat
theorem B_u8of {i : Int} (h : InK .u8 i) : B (u8of i) = .int .u8 i := by
  simp only [InK] at h
  have : ((u8of i).toNat : Int) = i := by
    unfold u8of
    have h1 : i.toNat < 256 := by omega
    simp only [UInt8.toNat_ofNat']
    omega
  rw [B, this]
theorem map_u8of {l : List Int} (h : ∀ y ∈ l, InK .u8 y) : (l.map u8of).map B = l.map (Value.int .u8) := by
  rw [List.map_map]
  exact List.map_congr_left fun y hy => B_u8of (h y hy)
theorem rd_u8 {W : World} {x : (Sh.slice (.int .u8)).T} (h : (Sh.slice (.int .u8)).ok W x) : RdS [Old W] 1 x.ad (x.l.map u8of).length ((x.l.map u8of).map B) := by
  rw [map_u8of h.2.2.2.2, List.length_map]
  exact rd_int h
end Go.RX
namespace Go.Proofs.YtmpemhbfgbochaaDoor
set_option linter.unusedSimpArgs false
set_option linter.unusedVariables false
set_option linter.unnecessarySimpa false
open Go.RX Go.ChangeShapes Go.WideShapes Go.ChangeAt Go.RowKit
theorem Tryd.own : ownKnob Tryd.prog.godebug = none := by kernel_rfl
theorem Tryd.laidOut : laidOutB Tryd.prog = true := by kernel_rfl
theorem gTab : Tryd.prog.globalNamed "roundhouse/limit.flags" = some 0 := by kernel_rfl
theorem gTabType : (Tryd.prog.globals[0]?).map (·.type) = some 107 := by kernel_rfl
theorem cellsT : Tryd.prog.cellsOf 107 = 2 := by kernel_rfl
theorem cellsE : Tryd.prog.cellsOf 3 = 1 := by kernel_rfl
theorem LimitFree_tab {W : World} (h : laidMetH Tryd.prog Rows.limitFreeRow.laid W) : Lib.TabIs Tryd.prog W "roundhouse/limit.flags" .i64 [2, 4] :=
  Lib.tabIs_of_head (rest := []) gTab gTabType Tryd.underlying107 Tryd.underlying3 cellsE cellsT h
theorem LimitFree_rd {W : World} (h : laidMetH Tryd.prog Rows.limitFreeRow.laid W) : Rd [Old W] 0 0 Lm.flV := Rd.old .here (fun j v e => by
  rcases j with _ | _ | j
  · simp at e; subst e; exact (LimitFree_tab h).cell gTab 0 (by decide)
  · simp at e; subst e; exact (LimitFree_tab h).cell gTab 1 (by decide)
  · simp at e)
noncomputable def laidWorld (os : Os) : World :=
  { World.holding Tryd.prog os ⟨#[], #[], []⟩ with heap := (World.holding Tryd.prog os ⟨#[], #[], []⟩).heap.modify 0 fun
      | .cells _ t frozen => .cells #[.int .i64 2, .int .i64 4] t frozen
      | o => o }
theorem laid_met (os : Os) : laidMet Tryd.prog Rows.limitFreeRow.laid ((laidWorld os).forCall (fun _ _ => 0) ⟨#[], #[.int .i64 0, .slice none 0 0, .slice none 0 0, .int .i64 0], []⟩).memory :=
  laidMet_of_run' 8 (by kernel_rfl) (by kernel_rfl)
set_option maxRecDepth 100000 in
theorem LimitFree_contract (H : Type) (enc : TypeId × Value → H) (W : World) (base : Nat) (args : Array Value) (ds gs : List (DataW H)) (before : List MemPlace)
    (hval : ∀ (j : Nat) t v, Tryd.f6.params[j]? = some t → args[j]? = some v → Value.okWide Tryd.prog W .any base t v)
    (hW : DataW.Whole enc Tryd.prog Tryd.f6.params.toList Rows.limitFreeSpec.vars false W args.toList ds gs before) (hL : laidMetH Tryd.prog Rows.limitFreeRow.laid W) :
    Calls Tryd.prog 6 args W fun e W' => ∃ v, e = .returned v ∧ Rows.limitFreeSpec.post enc Tryd.prog Tryd.f6 false true false false W args v W' := by
  have hW' := hW
  obtain ⟨p, q, hA0, hV, rfl, hfz, hnd⟩ := hW
  have hA : DataW.TrodAll enc Tryd.prog W 0 (fun _ => true) true Tryd.f6.params.toList args.toList ds p := hA0
  obtain ⟨rfl, rfl⟩ := trodVars_none hV
  simp only [List.append_nil] at hW'
  have hA1 := hA
  rw [Tryd.params6] at hA hval
  obtain ⟨v0, l0, d0, ds0, p0, q0, ha0, rfl, rfl, h0, hA⟩ := trodAll_cons hA
  obtain ⟨v1, l1, d1, ds1, p1, q1, rfl, rfl, rfl, h1, hA⟩ := trodAll_cons hA
  obtain ⟨v2, l2, d2, ds2, p2, q2, rfl, rfl, rfl, h2, hA⟩ := trodAll_cons hA
  obtain ⟨v3, l3, d3, ds3, p3, q3, rfl, rfl, rfl, h3, hA⟩ := trodAll_cons hA
  obtain ⟨rfl, rfl, rfl⟩ := trodAll_nil hA
  obtain rfl : args = #[v0, v1, v2, v3] := by cases args; simp_all
  obtain ⟨x0, e0, o0⟩ := open_arg (s := .int .i64) (by kernel_rfl) (hval 0 _ _ rfl rfl) h0
  have e0 := okW_one (s := .int .i64) (by kernel_rfl) rfl (hval 0 _ _ rfl rfl) e0
  simp only [Sh.enc, List.cons.injEq, and_true] at e0
  subst e0
  obtain ⟨x1, e1, o1⟩ := open_arg (s := .slice (.int .u8)) (by kernel_rfl) (hval 1 _ _ rfl rfl) h1
  have e1 := okW_one (s := .slice (.int .u8)) (by kernel_rfl) rfl (hval 1 _ _ rfl rfl) e1
  simp only [Sh.enc, List.cons.injEq, and_true] at e1
  subst e1
  obtain ⟨x2, e2, o2⟩ := open_arg (s := .slice (.int .u8)) (by kernel_rfl) (hval 2 _ _ rfl rfl) h2
  have e2 := okW_one (s := .slice (.int .u8)) (by kernel_rfl) rfl (hval 2 _ _ rfl rfl) e2
  simp only [Sh.enc, List.cons.injEq, and_true] at e2
  subst e2
  obtain ⟨x3, e3, o3⟩ := open_arg (s := .int .i64) (by kernel_rfl) (hval 3 _ _ rfl rfl) h3
  have e3 := okW_one (s := .int .i64) (by kernel_rfl) rfl (hval 3 _ _ rfl rfl) e3
  simp only [Sh.enc, List.cons.injEq, and_true] at e3
  subst e3
  have hF := LimitFree_rd hL
  refine (law_calls (by have := Lm.lfree_ct [Old W] hF x0 x1.ad x1.cap (x1.l.map u8of) (rd_u8 o1) (by rw [List.length_map]; exact o1.2.1) x2.ad x2.cap (x2.l.map u8of) (rd_u8 o2) (by rw [List.length_map]; exact o2.2.1) x3 o3; rwa [List.length_map, List.length_map] at this)).mono fun e W' ⟨he, hb⟩ => ?_
  subst he
  exact ⟨_, rfl, law_post Tryd.laidOut rfl Tryd.underlying4 rfl rfl (of_decide_eq_true (by kernel_rfl)) hW' hA1 hb⟩
set_option maxRecDepth 100000 in
theorem LimitFree_lifted (os : Os) (started : os.Started) (H : Type) (enc : TypeId × Value → H) (F : Stop.Interp) :
    ReturnsInHanded {} Tryd.checked os 6 .any ((OpenSpec.ofChange Rows.limitFreeSpec).preRow enc Tryd.prog Tryd.f6 Rows.limitFreeRow.domain false Rows.limitFreeRow.laid) (((OpenSpec.ofChange Rows.limitFreeSpec).at F).post enc Tryd.prog Tryd.f6 false true false false) := by
  have hsome : (DataW.whole enc Tryd.prog ((laidWorld os).forCall (fun _ _ => 0) ⟨#[], #[.int .i64 0, .slice none 0 0, .slice none 0 0, .int .i64 0], []⟩).memory Tryd.f6.params.toList Rows.limitFreeSpec.vars false (#[.int .i64 0, .slice none 0 0, .slice none 0 0, .int .i64 0] : Array Value).toList 8).isSome = true := by kernel_rfl
  obtain ⟨x0, hx⟩ := Option.isSome_iff_exists.1 hsome
  refine returnsInHanded_of_row (C := Tryd.checked) (s := OpenSpec.ofChange Rows.limitFreeSpec) Tryd.own started (by kernel_rfl) Tryd.func6
    (witness_row_at (enc := enc) (C := Tryd.checked) false (laidWorld os) #[.int .i64 0, .slice none 0 0, .slice none 0 0, .int .i64 0] rfl (by kernel_rfl) (by kernel_rfl) (by kernel_rfl)
      (OpenSpec.preRow_of_cond 8 hx rfl (fun k hk => by cases hk) (by kernel_rfl) (laid_met os))) ?_
  intro W base args ds gs before hval hW _ _ _ hL _ _
  exact LimitFree_contract H enc W base args ds gs before hval hW hL
theorem LimitFree_said : Rows.LimitFreeSaid :=
  OpenClaim.holds_of_cond 6 Tryd.f6 rfl rfl rfl rfl rfl rfl rfl ⟨rfl, rfl, rfl, rfl, rfl⟩ rfl rfl rfl rfl rfl (by kernel_rfl) Tryd.func6 (by kernel_rfl)
    (of_decide_eq_true (by kernel_rfl)) (by unfold Func.isWrapper; first | (rw [if_pos (by decide +kernel)]; kernel_rfl) | (rw [if_neg (by decide +kernel)]; exact ⟨rfl, rfl⟩))
    (fun os started H enc _ F => by rw [OpenClaim.pre_eq_preRow]; exact LimitFree_lifted os started H enc F)
theorem LimitFree_plain (f : FuncId) (fn : Func) (hf : Tryd.pinned.checked.prog.funcNamed "roundhouse/roundhouselaw27.LimitFree" = some f) (hfn : Tryd.pinned.checked.prog.funcs[f]? = some fn) :
    false = Tryd.pinned.checked.prog.looks [] ∧ ∀ (j : Nat) t, fn.params[j]? = some t → Tryd.pinned.checked.prog.wantsStandIn t = false := by
  obtain rfl : f = 6 := Option.some.inj ((show Tryd.prog.funcNamed "roundhouse/roundhouselaw27.LimitFree" = some 6 by kernel_rfl).symm.trans hf) |>.symm
  obtain rfl : fn = Tryd.f6 := (Option.some.inj (Tryd.func6.symm.trans hfn)).symm
  refine ⟨by kernel_rfl, fun j t ht => ?_⟩
  have hall : Tryd.f6.params.all (fun t => !Tryd.prog.wantsStandIn t) = true := by kernel_rfl
  have := Array.all_eq_true.1 hall j (Array.getElem?_eq_some_iff.1 ht).1
  rw [(Array.getElem?_eq_some_iff.1 ht).2] at this
  have h2 : Tryd.prog.wantsStandIn t = false := by simpa using this
  exact h2
theorem LimitFree_holds : Rows.LimitFreeCardSaid :=
  Claim7.holds_tied_plain_at .later [] _ _ _ _ LimitFree_said (fun _ h => by cases h) (by kernel_rfl) (fun _ h => by cases h) limitFree_row_tie rfl ⟨rfl, rfl⟩ (by kernel_rfl) rfl LimitFree_plain (by kernel_rfl)
end Go.Proofs.YtmpemhbfgbochaaDoor
