/-
  Limits: a limiter with its buckets, in a group and in none; leave by what there is; few; the chapter's examples. Limits: the law LimitNames. Limits: the law LimitWhen. Limits: what a bucket lets pass, in plain words. Limits: two limiters of one group, what they took, in plain words. Limits: two limiters of one group in memory; the law LimitBounds where the group's rate is none. Limits: the law LimitBounds where the limiters' rate is none.
-/
import Derived.Test.YtmpemhbfgbochaaDoorZLimitBoundsI
namespace Go.Proofs.YtmpemhbfgbochaaDoor
set_option linter.unusedSimpArgs false
set_option linter.unusedVariables false
set_option linter.unnecessarySimpa false
open Go.RX Fx
namespace Lm
open Bu Wo
set_option maxRecDepth 8000
theorem lg_ng {lb : Nat} {l : LmA} (hg : l.g = none) (G : GrA) {x : Nat → BkA} (y : Nat → BkA) {L : List SP} : ∀ h, sep (LmH lb l :: SlB (l.b 0) (x 0) :: SlB (l.b 1) (x 1) :: L) h → sep (LgL lb l G x y L) h := fun h s => by
  unfold LgL
  rw [hg]
  exact Ent.sep (.pick pkk (.pure trivial (.pick pkk (.pick pkk (.pure trivial (.pure trivial enn)))))) h s
theorem lg_gr {lb gb : Nat} {l : LmA} (hg : l.g = some gb) {G : GrA} {x y : Nat → BkA} {L : List SP} : ∀ h, sep (LmH lb l :: GrH gb G :: SlB (l.b 0) (x 0) :: SlB (l.b 1) (x 1) :: SlB (G.b 0) (y 0) :: SlB (G.b 1) (y 1) :: L) h → sep (LgL lb l G x y L) h := fun h s => by
  unfold LgL
  rw [hg]
  exact s
theorem lg_grb {lb gb : Nat} {l : LmA} (hg : l.g = some gb) {G : GrA} {x y : Nat → BkA} {L : List SP} : ∀ h, sep (LgL lb l G x y L) h → sep (LmH lb l :: GrH gb G :: SlB (l.b 0) (x 0) :: SlB (l.b 1) (x 1) :: SlB (G.b 0) (y 0) :: SlB (G.b 1) (y 1) :: L) h := fun h s => by
  unfold LgL at s
  rw [hg] at s
  exact s
def lvB (a b : Bool) (X Y : BkA) : Int := if nV X Y ((if a = true then [0] else []) ++ (if b = true then [1] else [])) < 1 then 0 else nV X Y ((if a = true then [0] else []) ++ (if b = true then [1] else []))
theorem lvS_b (s gs : Option Nat) (X Y : BkA) : lvS s gs X Y = lvB s.isSome gs.isSome X Y := rfl
def lwB (v0 v1 m : Int) : Int := if v1 = 0 then bits .andNot .i64 (if v0 = 0 then bits .andNot .i64 m 2 else m) 4 else if v0 = 0 then bits .andNot .i64 m 2 else m
theorem lwK_b (l : LmA) (G : GrA) (x y : Nat → BkA) (m : Int) : lwK l G x y m 2 = lwB (lvA l G x y 0) (lvA l G x y 1) m := by
  rw [lwK_succ, lwK_succ]; rfl
theorem whK_2 (l : LmA) (G : GrA) (x y : Nat → BkA) (m now : Int) : whK l G x y m now 2 = if bits .and .i64 m 4 = 0 ∨ 0 < lvA l G x y 1 then (if bits .and .i64 m 2 = 0 ∨ 0 < lvA l G x y 0 then NV else min NV (mV (x 0) (y 0) now (itS (l.b 0) (gsl l.g G 0)))) else min (if bits .and .i64 m 2 = 0 ∨ 0 < lvA l G x y 0 then NV else min NV (mV (x 0) (y 0) now (itS (l.b 0) (gsl l.g G 0)))) (mV (x 1) (y 1) now (itS (l.b 1) (gsl l.g G 1))) := by
  rw [whK_succ, whK_succ]; rfl
theorem gv_con {s : Nat → Option Nat} {x : Nat → BkA} (h : ∀ k, BkOk (x k)) {now : Int} (hn : InK .u64 now) {r : Nat → RtA} (hr : mayB r = true) (hd : ∀ k, 2 ≤ k → rz (r k) = true) : ∀ k, BkOk (gvX s x now r k) := fun k => by
  by_cases hk : k < 2
  · exact gv_ok h hn hr hk
  · unfold gvX; rw [if_pos (hd k (by omega))]; exact h k
abbrev rts (a b : RtA) : Nat → RtA := fun k => if k = 0 then a else if k = 1 then b else ⟨0, 0, 0⟩
theorem rts_far (a b : RtA) : ∀ k, 2 ≤ k → rz (rts a b k) = true := fun k hk => by
  unfold rts
  rw [if_neg (by omega), if_neg (by omega)]; rfl
abbrev r0 : RtA := ⟨0, 0, 0⟩
abbrev frX : BfA := enB (newB 0) 0 2
abbrev frW (n m : Nat) : WA := (writeR (pairA n) 1 (List.replicate m 0)).2
set_option maxHeartbeats 2000000 in
theorem few_ct (L : List SP) (n m : Nat) (h1 : 1 ≤ n) (h2 : n ≤ 65536) (hm : m ≤ 60000) : Ct Tryd.prog 8 #[.int .i64 (n : Int), .int .i64 (m : Int)] (L) (fun q_ : Nat × Nat × Nat => .tuple #[.pointer (some ⟨q_.1, 0, none⟩), .pointer (some ⟨q_.2.2, 0, none⟩), .bool true]) (fun q_ : Nat × Nat × Nat => LmH q_.2.2 ⟨q_.2.1, noS, none⟩ :: BufP q_.2.1 q_.1 frX :: WorldP q_.1 (frW n m) :: L) := by
  refine Ct.of (vs := [.int .i64 (n : Int), .int .i64 (m : Int)]) Tryd.func8 rfl rfl [(0, .int .i64 (n : Int)), (1, .int .i64 (m : Int))] (by repeat (first | exact trivial | refine ⟨rfl, ?_⟩)) ?_
  intro E
  show Hd E 40 _ _ _ _
  refine Hd.seq (fun K1 hK1 => ?_)
  refine Hd.region ?_
  refine Hd.yv (y_assign rfl) ?_
  refine Hd.yv (y_assign rfl) ?_
  refine Hd.yv (y_assign rfl) ?_
  refine Hd.nil ?_
  refine Hd.slots [(0, _), (1, _)] ⟨rfl, rfl, trivial⟩ ?_
  refine Hd.toK hK1 ?_
  refine Hd.seq (fun K2 hK2 => ?_)
  refine Hd.region ?_
  refine Hd.callE rfl fk23 (wnew_ct _) (Ent.sep enn) ?_
  intro wb
  refine Hd.yv (y_assign rfl) ?_
  refine Hd.nil ?_
  refine Hd.slots [(0, _), (1, _), (7, _)] ⟨rfl, rfl, rfl, trivial⟩ ?_
  refine Hd.toK hK2 ?_
  refine Hd.seq (fun K3 hK3 => ?_)
  refine Hd.region ?_
  refine Hd.yv (y_move rfl) ?_
  refine Hd.yv (y_move rfl) ?_
  refine Hd.callE rfl fk24 (pair_ct _ wb newA n h1 h2) (Ent.sep enn) ?_
  intro _
  refine Hd.nil ?_
  refine Hd.slots [(1, _), (7, _)] ⟨rfl, rfl, trivial⟩ ?_
  refine Hd.toK hK3 ?_
  refine Hd.seq (fun K4 hK4 => ?_)
  refine Hd.region ?_
  refine Hd.yv (y_move rfl) ?_
  refine Hd.callE rfl fk25 (bnew_ct _ wb (pairA n) 0 (op_pr (pr_new n))) (Ent.sep enn) ?_
  intro b
  refine Hd.yv (y_move rfl) ?_
  refine Hd.yv (y_extract rfl rfl) ?_
  refine Hd.yv (y_extract rfl rfl) ?_
  refine Hd.yv (y_assign rfl) ?_
  refine Hd.yv (y_assign rfl) ?_
  refine Hd.nil ?_
  refine Hd.slots [(1, _), (7, _), (8, _), (9, _)] ⟨rfl, rfl, rfl, rfl, trivial⟩ ?_
  refine Hd.toK hK4 ?_
  refine Hd.seq (fun K5 hK5 => ?_)
  refine Hd.region ?_
  refine Hd.yv (y_move rfl) ?_
  refine Hd.callE rfl fk26 (enable_ct _ b wb (newB 0) (tm_new 0) 0 2 (by simp [InK])) (Ent.sep enn) ?_
  intro _
  refine Hd.nil ?_
  refine Hd.slots [(1, _), (7, _), (8, _), (9, _)] ⟨rfl, rfl, rfl, rfl, trivial⟩ ?_
  refine Hd.toK hK5 ?_
  refine Hd.seq (fun K6 hK6 => ?_)
  refine Hd.region ?_
  refine Hd.yv (y_move rfl) ?_
  refine Hd.yv (y_move rfl) ?_
  refine Hd.mkslice Tryd.underlying35 ty5 zr5 rfl rfl rfl rfl (by omega) (by omega) (by simp only [maxLen]; omega) (fun b25 cs25 hcs25 => ?_)
  have hcs : cs25 = bsl (List.replicate m 0) := by rw [hcs25]; exact noughts_cells m
  subst hcs
  refine Hd.ptOwn (b := b25) (m := m) pkk (by simp) (by simp only [maxLen]; omega) ?_
  refine Hd.callE rfl fk10 (wwrite_ct _ wb (pairA n) 1 (some ⟨b25, 0, none⟩) m m (List.replicate m 0) (by simp) ?hD (by omega) (Nat.le_refl _)) (Ent.sep enn) ?_
  case hD => exact RdS.own pkk
  intro _
  refine Hd.nil ?_
  refine Hd.slots [(7, _), (8, _), (9, _)] ⟨rfl, rfl, rfl, trivial⟩ ?_
  refine Hd.toK hK6 ?_
  refine Hd.seq (fun K7 hK7 => ?_)
  refine Hd.region ?_
  refine Hd.yv (y_move rfl) ?_
  refine Hd.callE rfl fk22 (lnew_ct _ b) (Ent.sep enn) ?_
  intro lb
  refine Hd.yv (y_move rfl) ?_
  refine Hd.yv (y_extract rfl rfl) ?_
  refine Hd.yv (y_extract rfl rfl) ?_
  refine Hd.yv (y_assign rfl) ?_
  refine Hd.yv (y_assign rfl) ?_
  refine Hd.nil ?_
  refine Hd.slots [(7, _), (9, _), (10, _), (11, _)] ⟨rfl, rfl, rfl, rfl, trivial⟩ ?_
  refine Hd.toK hK7 ?_
  refine Hd.seq (fun K8 hK8 => ?_)
  refine Hd.region ?_
  refine Hd.yv (y_move rfl) ?_
  refine Hd.yv (y_move rfl) ?_
  refine Hd.yv (y_move rfl) ?_
  first | (refine Hd.yv (y_to (y_eqlT rfl rfl) (congrArg Value.bool (decide_eq_true (rfl)))) ?_) | (refine Hd.yv (y_to (y_eql rfl rfl) (congrArg Value.bool (decide_eq_true (rfl)))) ?_)
  refine Hd.yv (y_move rfl) ?_
  refine Hd.yg rfl rfl (y_move rfl) ?_
  first | (refine Hd.yg rfl rfl (y_to (y_eqlT rfl rfl) (congrArg Value.bool (decide_eq_true (rfl)))) ?_) | (refine Hd.yg rfl rfl (y_to (y_eql rfl rfl) (congrArg Value.bool (decide_eq_true (rfl)))) ?_)
  first | (refine Hd.yv (y_pickT rfl rfl) ?_) | (refine Hd.yv (y_pickF rfl rfl) ?_) | (refine Hd.yv (y_pickb rfl rfl rfl) ?_) | (refine Hd.yv (y_pick rfl rfl rfl) ?_)
  refine Hd.yv (y_assign rfl) ?_
  refine Hd.yv (y_assign rfl) ?_
  refine Hd.yv (y_assign rfl) ?_
  refine Hd.nil ?_
  refine Hd.slots [(4, _), (5, _), (6, _)] ⟨rfl, rfl, rfl, trivial⟩ ?_
  refine Hd.toK hK8 ?_
  refine Hd.ret ?_
  clear hK1 hK2 hK3 hK4 hK5 hK6 hK7 hK8
  exact Hd.ret3 rfl (wb, b, lb) rfl rfl rfl rfl (Ent.sep enn)
abbrev exR : Nat → RtA := rts ⟨10, 5, 20⟩ r0
abbrev exX : Nat → BkA := gvX noS dmX 0 exR
abbrev exW : WA := frW 100 50
abbrev exS1 : StA := stepS frX exW 0 2 20 4096
abbrev exX1 : Nat → BkA := stX 0 exS1.t exX
abbrev exX2 : Nat → BkA := cmA 0 exX1
abbrev exX3 : Nat → BkA := cmA 0 exX2
abbrev exS4 : StA := stepS exS1.x exS1.w 4 0 0 4096
abbrev exX4 : Nat → BkA := stX 4 exS4.t exX3
abbrev exS5 : StA := stepS exS4.x exS4.w 5 2 10 4096
abbrev exX5 : Nat → BkA := stX 5 exS5.t exX4
theorem ex_may : mayB exR = true := by decide +kernel
theorem ex_k0 : ∀ k, BkOk (exX k) := gv_con (fun _ => dum_ok) (by simp [InK]) ex_may (rts_far _ _)
theorem stX_ok {x : Nat → BkA} (h : ∀ k, BkOk (x k)) {now : Int} (hn : InK .u64 now) (t : ToA) : ∀ k, BkOk (stX now t x k) := fun k => tak_ok (h k) hn _
theorem cmA_ok {x : Nat → BkA} (h : ∀ k, BkOk (x k)) {now : Int} (hn : InK .u64 now) : ∀ k, BkOk (cmA now x k) := fun k => come_ok (h k) hn
theorem ex_t1 : encT exS1.t = [.bool true, .bool false, .int .i64 0, .int .i64 0, .int .i64 20, .int .i64 0] := by rfl
theorem ex_t4 : encT exS4.t = [.bool false, .bool false, .int .i64 0, .int .i64 0, .int .i64 0, .int .i64 0] := by rfl
theorem ex_t5 : encT exS5.t = [.bool true, .bool false, .int .i64 0, .int .i64 0, .int .i64 10, .int .i64 0] := by rfl
abbrev exY1 : Nat → BkA := stX 0 exS1.t dmX
abbrev exY2 : Nat → BkA := cmA 0 exY1
abbrev exY3 : Nat → BkA := cmA 0 exY2
abbrev exY4 : Nat → BkA := stX 4 exS4.t exY3
abbrev exY5 : Nat → BkA := stX 5 exS5.t exY4
theorem in0 : InK .u64 0 := by simp [InK]
theorem in4 : InK .u64 4 := by simp [InK]
theorem in5 : InK .u64 5 := by simp [InK]
theorem ex_c0 : ConOk exX dmX := ⟨ex_k0, fun _ => dum_ok⟩
theorem ex_c1 : ConOk exX1 exY1 := ⟨stX_ok ex_c0.x in0 _, stX_ok ex_c0.y in0 _⟩
theorem ex_c2 : ConOk exX2 exY2 := ⟨cmA_ok ex_c1.x in0, cmA_ok ex_c1.y in0⟩
theorem ex_c3 : ConOk exX3 exY3 := ⟨cmA_ok ex_c2.x in0, cmA_ok ex_c2.y in0⟩
theorem ex_c4 : ConOk exX4 exY4 := ⟨stX_ok ex_c3.x in4 _, stX_ok ex_c3.y in4 _⟩
theorem ex_c5 : ConOk exX5 exY5 := ⟨stX_ok ex_c4.x in5 _, stX_ok ex_c4.y in5 _⟩
theorem ex_b0 : BOk frX := bok_en (bok_new 0) in0 2
theorem ex_b1 : BOk exS1.x := bok_step ex_b0 in0 _ _ _ _
theorem ex_b4 : BOk exS4.x := bok_step ex_b1 in4 _ _ _ _
theorem ex_l1 : lvB true false (cmA 0 exX 0) (cmA 0 dmX 0) = 20 := by decide +kernel
theorem ex_m1 : lvB false false (cmA 0 exX 1) (cmA 0 dmX 1) = 4096 := by decide +kernel
theorem ex_f1 : bits .and .i64 2 (lwB 20 4096 (wantsA frX)) = 2 := by decide +kernel
theorem ex_w2 : lwB (lvB true false (exX2 0) (exY2 0)) (lvB false false (exX2 1) (exY2 1)) (wantsA exS1.x) = 0 := by decide +kernel
theorem ex_l3 : lvB true false (exX3 0) (exY3 0) = 0 := by decide +kernel
theorem ex_m3 : lvB false false (exX3 1) (exY3 1) = 4096 := by decide +kernel
theorem ex_v3 : mV (exX3 0) (exY3 0) 0 [0] = 5 := by decide +kernel
theorem ex_b3 : bits .and .i64 (wantsA exS1.x) 4 = 0 ∧ ¬ bits .and .i64 (wantsA exS1.x) 2 = 0 := by decide +kernel
theorem ex_l4 : lvB true false (cmA 4 exX3 0) (cmA 4 exY3 0) = 0 := by decide +kernel
theorem ex_m4 : lvB false false (cmA 4 exX3 1) (cmA 4 exY3 1) = 4096 := by decide +kernel
theorem ex_f4 : bits .and .i64 2 (lwB 0 4096 (wantsA exS1.x)) = 0 := by decide +kernel
theorem ex_l5 : lvB true false (cmA 5 exX4 0) (cmA 5 exY4 0) = 10 := by decide +kernel
theorem ex_m5 : lvB false false (cmA 5 exX4 1) (cmA 5 exY4 1) = 4096 := by decide +kernel
theorem ex_f5 : bits .and .i64 2 (lwB 10 4096 (wantsA exS4.x)) = 2 := by decide +kernel
theorem ex_l6 : lvB true false (cmA 5 exX5 0) (cmA 5 exY5 0) = 0 := by decide +kernel
theorem ex_m6 : lvB false false (cmA 5 exX5 1) (cmA 5 exY5 1) = 4096 := by decide +kernel
theorem ls_of {l : LmA} {G : GrA} {x y : Nat → BkA} {X : BfA} {w : WA} {now flags v0 v1 f : Int} (h0 : lvA l G (cmA now x) (cmA now y) 0 = v0) (h1 : lvA l G (cmA now x) (cmA now y) 1 = v1) (hf : bits .and .i64 flags (lwB v0 v1 (wantsA X)) = f) : lsS l G x y X w now flags = stepS X w now f v0 v1 := by
  unfold lsS
  rw [lwK_b, h0, h1, hf]
theorem lv0_b {b : Nat} {s : Nat → Option Nat} {g : Option Nat} {G : GrA} {c d : Bool} {k : Nat} (h : (s k).isSome = c) (hg : (gsl g G k).isSome = d) (x y : Nat → BkA) : lvA ⟨b, s, g⟩ G x y k = lvB c d (x k) (y k) := by
  unfold lvA; rw [lvS_b, h, hg]
abbrev G0 : GrA := ⟨noS, 0⟩
set_option maxHeartbeats 2000000 in
theorem alive27_ct (L : List SP) (hF : Rd L 0 0 flV) : Ct Tryd.prog 7 #[] (L) (fun _ : Unit => .bool true) (fun _ : Unit => L) := by
  refine Ct.of (vs := []) Tryd.func7 rfl rfl [] (by repeat (first | exact trivial | refine ⟨rfl, ?_⟩)) ?_
  intro E
  show Hd E 72 _ _ _ _
  refine Hd.seq (fun K1 hK1 => ?_)
  refine Hd.region ?_
  refine Hd.yv (y_assign rfl) ?_
  refine Hd.nil ?_
  refine Hd.slots [] trivial ?_
  refine Hd.toK hK1 ?_
  refine Hd.seq (fun K2 hK2 => ?_)
  refine Hd.region ?_
  refine Hd.callE rfl fk8 (few_ct _ 100 50 (by decide) (by decide) (by decide)) (Ent.sep enn) ?_
  rintro ⟨wb, b, lb⟩
  dsimp only
  refine Hd.yv (y_move rfl) ?_
  refine Hd.yv (y_extract rfl rfl) ?_
  refine Hd.yv (y_extract rfl rfl) ?_
  refine Hd.yv (y_extract rfl rfl) ?_
  refine Hd.yv (y_assign rfl) ?_
  refine Hd.yv (y_assign rfl) ?_
  refine Hd.yv (y_assign rfl) ?_
  refine Hd.nil ?_
  refine Hd.slots [(2, _), (3, _)] ⟨rfl, rfl, trivial⟩ ?_
  refine Hd.toK hK2 ?_
  refine Hd.seq (fun K3 hK3 => ?_)
  refine Hd.heap (LmH lb ⟨b, noS, none⟩ :: SlB (noS 0) (dmX 0) :: SlB (noS 1) (dmX 1) :: BufP b wb frX :: WorldP wb exW :: L) (fun q s => by rw [slB_noS]; exact Ent.sep (.pick pkk (.pure trivial (.pure trivial enn))) q s) ?_
  refine Hd.region ?_
  refine Hd.yv (y_move rfl) ?_
  refine Hd.yv (y_build (vs := [(0, _), (1, _), (2, _)]) rfl (by first | exact bd7_18 .. | kernel_rfl)) ?_
  refine Hd.yv (y_build (vs := []) rfl (by first | exact bd7_19 .. | kernel_rfl)) ?_
  refine Hd.callE rfl fk9 (lset_ct _ lb ⟨b, noS, none⟩ dmX (fun _ => dum_ok) exR ex_may 0 in0) (Ent.sep enn) ?_
  intro s
  refine Hd.yv (y_assign rfl) ?_
  refine Hd.nil ?_
  refine Hd.pure (fun hs => ?_)
  have h0 : (s 0).isSome = true := hs 0 (by decide)
  have h1 : (s 1).isSome = false := hs 1 (by decide)
  have hl0 : ∀ x y : Nat → BkA, lvA ⟨b, s, none⟩ G0 x y 0 = lvB true false (x 0) (y 0) := lv0_b h0 rfl
  have hl1 : ∀ x y : Nat → BkA, lvA ⟨b, s, none⟩ G0 x y 1 = lvB false false (x 1) (y 1) := lv0_b h1 rfl
  have hit : itS (s 0) (gsl none G0 0) = [0] := by unfold itS; rw [h0]; rfl
  refine Hd.heap (LgL lb ⟨b, s, none⟩ G0 exX dmX (BufP b wb frX :: WorldP wb exW :: L)) (fun q t => lg_ng rfl G0 dmX q (Ent.sep enn q t)) ?_
  refine Hd.slots [(2, _), (3, _), (4, _)] ⟨rfl, rfl, rfl, trivial⟩ ?_
  refine Hd.toK hK3 ?_
  refine Hd.seq (fun K4 hK4 => ?_)
  refine Hd.region ?_
  refine Hd.yv (y_move rfl) ?_
  refine Hd.callE rfl fk11 (lstep_ct _ lb wb ⟨b, s, none⟩ G0 exX dmX ex_c0 frX ex_b0 exW 0 2 in0 ?hF exS1 (ls_of ((hl0 _ _).trans ex_l1) ((hl1 _ _).trans ex_m1) ex_f1) (by rw [show exS1.t.i = 20 by rfl]; simp [InK]) (by rw [show exS1.t.o = 0 by rfl]; simp [InK])) (Ent.sep enn) ?_
  case hF => exact Rd.mono hF (Ent.sep enn)
  intro _
  rw [ex_t1]
  refine Hd.alloc zr37 (fun b5 => ?_)
  refine Hd.storeA (us := [.bool true, .bool false, .int .i64 0, .int .i64 0, .int .i64 20, .int .i64 0]) sz37 rfl rfl rfl (by simp [Value.oneCell']) pkk (by exact rfl) ?_
  refine Hd.nil ?_
  refine Hd.slots [(2, _), (3, _), (4, _), (5, _)] ⟨rfl, rfl, rfl, rfl, trivial⟩ ?_
  refine Hd.toK hK4 ?_
  refine Hd.seq (fun K5 hK5 => ?_)
  refine Hd.region ?_
  refine Hd.yv (y_move rfl) ?_
  refine Hd.callE rfl fk16 (lwants_ct _ lb wb ⟨b, s, none⟩ G0 exX1 exY1 ex_c1 exS1.x 0 in0 ?hF) (Ent.sep enn) ?_
  case hF => exact Rd.mono hF (Ent.sep enn)
  intro _
  rw [lwK_b, hl0, hl1, ex_w2]
  refine Hd.yv (y_assign rfl) ?_
  refine Hd.nil ?_
  refine Hd.slots [(2, _), (3, _), (4, _), (5, _), (6, _)] ⟨rfl, rfl, rfl, rfl, rfl, trivial⟩ ?_
  refine Hd.toK hK5 ?_
  refine Hd.seq (fun K6 hK6 => ?_)
  refine Hd.region ?_
  refine Hd.yv (y_move rfl) ?_
  refine Hd.callE rfl fk15 (lwhen_ct _ lb wb ⟨b, s, none⟩ G0 exX2 exY2 ex_c2 exS1.x 0 in0 ?hF) (Ent.sep enn) ?_
  case hF => exact Rd.mono hF (Ent.sep enn)
  intro _
  rw [whK_2, hl0, hl1, ex_l3, ex_m3, hit, ex_v3, if_pos (.inr (by decide)), if_neg (fun h => h.elim ex_b3.2 (by decide))]
  refine Hd.yv (y_assign rfl) ?_
  refine Hd.nil ?_
  refine Hd.slots [(2, _), (3, _), (4, _), (5, _), (6, _), (7, _)] ⟨rfl, rfl, rfl, rfl, rfl, rfl, trivial⟩ ?_
  refine Hd.toK hK6 ?_
  refine Hd.seq (fun K7 hK7 => ?_)
  refine Hd.region ?_
  refine Hd.yv (y_move rfl) ?_
  refine Hd.callE rfl fk11 (lstep_ct _ lb wb ⟨b, s, none⟩ G0 exX3 exY3 ex_c3 exS1.x ex_b1 exS1.w 4 2 in4 ?hF exS4 (ls_of ((hl0 _ _).trans ex_l4) ((hl1 _ _).trans ex_m4) ex_f4) (by rw [show exS4.t.i = 0 by rfl]; simp [InK]) (by rw [show exS4.t.o = 0 by rfl]; simp [InK])) (Ent.sep enn) ?_
  case hF => exact Rd.mono hF (Ent.sep enn)
  intro _
  rw [ex_t4]
  refine Hd.alloc zr37 (fun b8 => ?_)
  refine Hd.storeA (us := [.bool false, .bool false, .int .i64 0, .int .i64 0, .int .i64 0, .int .i64 0]) sz37 rfl rfl rfl (by simp [Value.oneCell']) pkk (by exact rfl) ?_
  refine Hd.nil ?_
  refine Hd.slots [(2, _), (3, _), (4, _), (5, _), (6, _), (7, _), (8, _)] ⟨rfl, rfl, rfl, rfl, rfl, rfl, rfl, trivial⟩ ?_
  refine Hd.toK hK7 ?_
  refine Hd.seq (fun K8 hK8 => ?_)
  refine Hd.region ?_
  refine Hd.yv (y_move rfl) ?_
  refine Hd.callE rfl fk11 (lstep_ct _ lb wb ⟨b, s, none⟩ G0 exX4 exY4 ex_c4 exS4.x ex_b4 exS4.w 5 2 in5 ?hF exS5 (ls_of ((hl0 _ _).trans ex_l5) ((hl1 _ _).trans ex_m5) ex_f5) (by rw [show exS5.t.i = 10 by rfl]; simp [InK]) (by rw [show exS5.t.o = 0 by rfl]; simp [InK])) (Ent.sep enn) ?_
  case hF => exact Rd.mono hF (Ent.sep enn)
  intro _
  rw [ex_t5]
  refine Hd.alloc zr37 (fun b9 => ?_)
  refine Hd.storeA (us := [.bool true, .bool false, .int .i64 0, .int .i64 0, .int .i64 10, .int .i64 0]) sz37 rfl rfl rfl (by simp [Value.oneCell']) pkk (by exact rfl) ?_
  refine Hd.nil ?_
  refine Hd.slots [(2, _), (3, _), (4, _), (5, _), (6, _), (7, _), (8, _), (9, _)] ⟨rfl, rfl, rfl, rfl, rfl, rfl, rfl, rfl, trivial⟩ ?_
  refine Hd.toK hK8 ?_
  refine Hd.seq (fun K9 hK9 => ?_)
  refine Hd.region ?_
  refine Hd.yv (y_move rfl) ?_
  refine Hd.callE rfl fk14 (leaves_ct _ lb ⟨b, s, none⟩ G0 exX5 exY5 ex_c5 5 in5) (Ent.sep enn) ?_
  intro _
  rw [show lvS (LmA.b ⟨b, s, none⟩ 0) (gsl (LmA.g ⟨b, s, none⟩) G0 0) (cmA 5 exX5 0) (cmA 5 exY5 0) = 0 from (hl0 (cmA 5 exX5) (cmA 5 exY5)).trans ex_l6, show lvS (LmA.b ⟨b, s, none⟩ 1) (gsl (LmA.g ⟨b, s, none⟩) G0 1) (cmA 5 exX5 1) (cmA 5 exY5 1) = 4096 from (hl1 (cmA 5 exX5) (cmA 5 exY5)).trans ex_m6]
  refine Hd.yv (y_move rfl) ?_
  refine Hd.yv (y_extract rfl rfl) ?_
  refine Hd.yv (y_extract rfl rfl) ?_
  refine Hd.yv (y_assign rfl) ?_
  refine Hd.yv (y_assign rfl) ?_
  refine Hd.nil ?_
  refine Hd.slots [(3, _), (4, _), (5, _), (6, _), (7, _), (8, _), (9, _), (10, _), (11, _)] ⟨rfl, rfl, rfl, rfl, rfl, rfl, rfl, rfl, rfl, trivial⟩ ?_
  refine Hd.toK hK9 ?_
  refine Hd.seq (fun K10 hK10 => ?_)
  refine Hd.region ?_
  refine Hd.yv (y_move rfl) ?_
  refine Hd.yv (y_move rfl) ?_
  refine Hd.yg rfl rfl (y_move rfl) ?_
  first | (refine Hd.yg rfl rfl (y_to (y_eqlT rfl rfl) (congrArg Value.bool (decide_eq_true ((by rfl))))) ?_) | (refine Hd.yg rfl rfl (y_to (y_eql rfl rfl) (congrArg Value.bool (decide_eq_true ((by rfl))))) ?_)
  first | (refine Hd.yv (y_pickT rfl rfl) ?_) | (refine Hd.yv (y_pickF rfl rfl) ?_) | (refine Hd.yv (y_pickb rfl rfl rfl) ?_) | (refine Hd.yv (y_pick rfl rfl rfl) ?_)
  refine Hd.yv (y_move rfl) ?_
  refine Hd.yg rfl rfl (y_loadn (us := [.bool true, .bool false, .int .i64 0, .int .i64 0, .int .i64 20, .int .i64 0]) ag37 rfl (Rd.pt (b := b5) pkk (fun j v e => by rw [Nat.zero_add]; exact e)) (by exact sz37)) ?_
  refine Hd.yg rfl rfl (y_build (vs := [(0, _), (4, _)]) rfl (by first | exact bd7_43 .. | kernel_rfl)) ?_
  refine Hd.yg rfl rfl (y_to (v' := .bool true) (y_eql_agg rfl rfl eqt37 rfl ⟨rfl, rfl⟩) (by rfl)) ?_
  first | (refine Hd.yv (y_pickT rfl rfl) ?_) | (refine Hd.yv (y_pickF rfl rfl) ?_) | (refine Hd.yv (y_pickb rfl rfl rfl) ?_) | (refine Hd.yv (y_pick rfl rfl rfl) ?_)
  refine Hd.yv (y_move rfl) ?_
  refine Hd.yg rfl rfl (y_move rfl) ?_
  first | (refine Hd.yg rfl rfl (y_to (y_eqlT rfl rfl) (congrArg Value.bool (decide_eq_true ((by rfl))))) ?_) | (refine Hd.yg rfl rfl (y_to (y_eql rfl rfl) (congrArg Value.bool (decide_eq_true ((by rfl))))) ?_)
  first | (refine Hd.yv (y_pickT rfl rfl) ?_) | (refine Hd.yv (y_pickF rfl rfl) ?_) | (refine Hd.yv (y_pickb rfl rfl rfl) ?_) | (refine Hd.yv (y_pick rfl rfl rfl) ?_)
  refine Hd.yv (y_move rfl) ?_
  refine Hd.yg rfl rfl (y_move rfl) ?_
  first | (refine Hd.yg rfl rfl (y_to (y_eqlT rfl rfl) (congrArg Value.bool (decide_eq_true ((by decide))))) ?_) | (refine Hd.yg rfl rfl (y_to (y_eql rfl rfl) (congrArg Value.bool (decide_eq_true ((by decide))))) ?_)
  first | (refine Hd.yv (y_pickT rfl rfl) ?_) | (refine Hd.yv (y_pickF rfl rfl) ?_) | (refine Hd.yv (y_pickb rfl rfl rfl) ?_) | (refine Hd.yv (y_pick rfl rfl rfl) ?_)
  refine Hd.yv (y_move rfl) ?_
  refine Hd.yg rfl rfl (y_loadn (us := [.bool false, .bool false, .int .i64 0, .int .i64 0, .int .i64 0, .int .i64 0]) ag37 rfl (Rd.pt (b := b8) pkk (fun j v e => by rw [Nat.zero_add]; exact e)) (by exact sz37)) ?_
  refine Hd.yg rfl rfl (y_build (vs := []) rfl (by first | exact bd7_56 .. | kernel_rfl)) ?_
  refine Hd.yg rfl rfl (y_to (v' := .bool true) (y_eql_agg rfl rfl eqt37 rfl ⟨rfl, rfl⟩) (by rfl)) ?_
  first | (refine Hd.yv (y_pickT rfl rfl) ?_) | (refine Hd.yv (y_pickF rfl rfl) ?_) | (refine Hd.yv (y_pickb rfl rfl rfl) ?_) | (refine Hd.yv (y_pick rfl rfl rfl) ?_)
  refine Hd.yv (y_move rfl) ?_
  refine Hd.yg rfl rfl (y_loadn (us := [.bool true, .bool false, .int .i64 0, .int .i64 0, .int .i64 10, .int .i64 0]) ag37 rfl (Rd.pt (b := b9) pkk (fun j v e => by rw [Nat.zero_add]; exact e)) (by exact sz37)) ?_
  refine Hd.yg rfl rfl (y_build (vs := [(0, _), (4, _)]) rfl (by first | exact bd7_61 .. | kernel_rfl)) ?_
  refine Hd.yg rfl rfl (y_to (v' := .bool true) (y_eql_agg rfl rfl eqt37 rfl ⟨rfl, rfl⟩) (by rfl)) ?_
  first | (refine Hd.yv (y_pickT rfl rfl) ?_) | (refine Hd.yv (y_pickF rfl rfl) ?_) | (refine Hd.yv (y_pickb rfl rfl rfl) ?_) | (refine Hd.yv (y_pick rfl rfl rfl) ?_)
  refine Hd.yv (y_move rfl) ?_
  refine Hd.yg rfl rfl (y_move rfl) ?_
  first | (refine Hd.yg rfl rfl (y_to (y_eqlT rfl rfl) (congrArg Value.bool (decide_eq_true ((by rfl))))) ?_) | (refine Hd.yg rfl rfl (y_to (y_eql rfl rfl) (congrArg Value.bool (decide_eq_true ((by rfl))))) ?_)
  first | (refine Hd.yv (y_pickT rfl rfl) ?_) | (refine Hd.yv (y_pickF rfl rfl) ?_) | (refine Hd.yv (y_pickb rfl rfl rfl) ?_) | (refine Hd.yv (y_pick rfl rfl rfl) ?_)
  refine Hd.yv (y_move rfl) ?_
  refine Hd.yg rfl rfl (y_move rfl) ?_
  first | (refine Hd.yg rfl rfl (y_to (y_eqlT rfl rfl) (congrArg Value.bool (decide_eq_true ((by rfl))))) ?_) | (refine Hd.yg rfl rfl (y_to (y_eql rfl rfl) (congrArg Value.bool (decide_eq_true ((by rfl))))) ?_)
  first | (refine Hd.yv (y_pickT rfl rfl) ?_) | (refine Hd.yv (y_pickF rfl rfl) ?_) | (refine Hd.yv (y_pickb rfl rfl rfl) ?_) | (refine Hd.yv (y_pick rfl rfl rfl) ?_)
  refine Hd.yv (y_assign rfl) ?_
  refine Hd.nil ?_
  refine Hd.slots [(0, _)] ⟨rfl, trivial⟩ ?_
  refine Hd.toK hK10 ?_
  refine Hd.ret ?_
  clear hK1 hK2 hK3 hK4 hK5 hK6 hK7 hK8 hK9 hK10
  exact Hd.ret1 rfl () (by first | rfl | (simp only [*]; done) | (simp [*]; done)) (Ent.sep enn)
end Lm
end Go.Proofs.YtmpemhbfgbochaaDoor
namespace Go.Proofs.YtmpemhbfgbochaaDoor
set_option linter.unusedSimpArgs false
set_option linter.unusedVariables false
set_option linter.unnecessarySimpa false
open Go.RX Fx
namespace Lm
open Bu Wo
set_option maxRecDepth 8000
theorem sl_no {x : Nat → BkA} {L : List SP} : ∀ h, sep L h → sep (SlB (noS 0) (x 0) :: SlB (noS 1) (x 1) :: L) h := fun h s => by
  rw [slB_noS, slB_noS]; exact Ent.sep (.pure trivial (.pure trivial .same)) h s
end Lm
end Go.Proofs.YtmpemhbfgbochaaDoor
namespace Go.Proofs.YtmpemhbfgbochaaDoor
set_option linter.unusedSimpArgs false
set_option linter.unusedVariables false
set_option linter.unnecessarySimpa false
open Go.RX Fx
namespace Lm
open Bu Wo
set_option maxRecDepth 8000
theorem Ct.cases {P : Program} {f : FuncId} {vs : Array Value} {L : List SP} {ι : Type} {val : ι → Value} {post : ι → List SP} (c : Bool) (h1 : c = true → Ct P f vs L val post) (h2 : c = false → Ct P f vs L val post) : Ct P f vs L val post := by
  cases c
  · exact h2 rfl
  · exact h1 rfl
theorem lsetN_ct (L : List SP) (lb b : Nat) (r : Nat → RtA) (now : Int) (hn : InK .u64 now) : Ct Tryd.prog 9 #[.pointer (some ⟨lb, 0, none⟩), .int .u64 now, .agg (encRt (r 0)).toArray, .agg (encRt (r 1)).toArray] (LmH lb ⟨b, noS, none⟩ :: L)
    (fun _ : Nat → Option Nat => .int .i64 (if mayB r = true then 0 else 80)) (fun s => pu (∀ j, j < 2 → (s j).isSome = (mayB r && !rz (r j))) :: LmH lb ⟨b, s, none⟩ :: SlB (s 0) (gvX noS dmX now r 0) :: SlB (s 1) (gvX noS dmX now r 1) :: L) := by
  refine Ct.cases (mayB r) (fun h => ?_) (fun h => ?_)
  · refine Ct.imp (lset_ct L lb ⟨b, noS, none⟩ dmX (fun _ => dum_ok) r h now hn) (fun k s => ?_) (fun s => ⟨s, by rw [if_pos h], fun k q => ?_⟩)
    · have t2 := sl_no (x := dmX) k s
      exact Ent.sep enn k t2
    · rw [h]; simp only [Bool.true_and]; exact q
  · refine Ct.imp (lset_bad L lb ⟨b, noS, none⟩ r h now) (fun k s => s) (fun _ => ⟨noS, by rw [h]; rfl, fun k q => ?_⟩)
    rw [h]
    have t2 := sl_no (x := gvX noS dmX now r) k q
    exact Ent.sep (.pure (fun j _ => rfl) enn) k t2
theorem stT_io (x : BfA) (got went : List UInt8) : (stT2 x went (stT1 x got noT)).i = (got.length : Int) ∧ (stT2 x went (stT1 x got noT)).o = (went.length : Int) := by
  unfold stT2 stT1
  split <;> split
  · rename_i h1 h2; subst h1; subst h2; exact ⟨rfl, rfl⟩
  · rename_i h1 h2; subst h1; exact ⟨rfl, rfl⟩
  · rename_i h1 h2; subst h2; exact ⟨rfl, rfl⟩
  · exact ⟨rfl, rfl⟩
theorem stW_max (n : Nat) (x : BfA) (l : Nat → List UInt8) (flags much : Int) : (stW n x l flags much).length ≤ (x.s 1).c.length := by
  have h := congrArg List.length (stW_pre n x l flags much)
  rw [List.length_append] at h; omega
structure RnI (n : Nat) (X : BfA) (w : WA) (l : Nat → List UInt8) : Prop where
  ok : BOk X
  fd : X.fd = 0
  on : ∀ k, k < 2 → (X.s k).on = true
  run : ∀ k, k < 2 → (X.s k).ended = false
  high : (X.s 0).high = 0
  out : (X.s 1).c = []
  w : PrW n w l
theorem RnI.step {n : Nat} {X : BfA} {w : WA} {l : Nat → List UInt8} (h : RnI n X w l) {now : Int} (hn : InK .u64 now) (flags most much : Int) :
    RnI n (stepS X w now flags most much).x (stepS X w now flags most much).w (mvL l (stG X l flags most) (stW n X l flags much)) ∧ (stepS X w now flags most much).t.i = ((stG X l flags most).length : Int) ∧ (stepS X w now flags most much).t.o = 0 := by
  have hs := step_pr h.w h.fd now flags most much
  have hwl := stW_max n X l flags much
  rw [h.out] at hwl
  have hw0 : stW n X l flags much = [] := List.length_eq_zero_iff.1 (by simpa using hwl)
  have hio := stT_io X (stG X l flags most) (stW n X l flags much)
  refine ⟨⟨bok_step h.ok hn w flags most much, hs.fd.trans h.fd, fun k hk => ?_, fun k hk => ?_, hs.s0.2.2.2.2.1.trans h.high, ?_, hs.w⟩, by rw [hs.t]; exact hio.1, by rw [hs.t, hio.2, hw0]; rfl⟩
  · rcases (show k = 0 ∨ k = 1 by omega) with rfl | rfl
    · exact hs.s0.2.1.trans (h.on 0 hk)
    · exact hs.s1.2.1.trans (h.on 1 hk)
  · rcases (show k = 0 ∨ k = 1 by omega) with rfl | rfl
    · exact hs.s0.2.2.1.trans (h.run 0 hk)
    · exact hs.s1.2.2.1.trans (h.run 1 hk)
  · rw [hs.s1.1, h.out, List.drop_nil]
theorem RnI.put {n : Nat} {X : BfA} {w : WA} {l : Nat → List UInt8} (h : RnI n X w l) (bs : List UInt8) : RnI n X (writeR w 1 bs).2 (updL l 0 (l 0 ++ bs.take (n - (l 0).length))) :=
  { h with w := (writeR_pr h.w (k := 1) (by omega) bs).2 }
theorem come_0 {x : BkA} (h : x.clk = 0) : come x 0 = x := if_pos (by omega)
theorem tak_0 {x : BkA} (h : x.clk = 0) (n : Int) : (tak x 0 n).clk = 0 ∧ (tak x 0 n).r = x.r := by
  unfold tak; rw [come_0 h]; split <;> exact ⟨h, rfl⟩
structure LwI (n : Nat) (r : RtA) (x y : Nat → BkA) (X : BfA) (w : WA) (l : Nat → List UInt8) : Prop where
  c : ConOk x y
  clk : (x 0).clk = 0
  r : (x 0).r = r
  n : RnI n X w l
theorem LwI.come {n : Nat} {r : RtA} {x y : Nat → BkA} {X : BfA} {w : WA} {l : Nat → List UInt8} (h : LwI n r x y X w l) : LwI n r (cmA 0 x) (cmA 0 y) X w l :=
  ⟨⟨cmA_ok h.c.x in0, cmA_ok h.c.y in0⟩, by show (Lm.come (x 0) 0).clk = 0; rw [come_0 h.clk]; exact h.clk, by show (Lm.come (x 0) 0).r = r; rw [come_0 h.clk]; exact h.r, h.n⟩
theorem LwI.take {n : Nat} {r : RtA} {x y : Nat → BkA} {X X' : BfA} {w w' : WA} {l l' : Nat → List UInt8} (h : LwI n r x y X w l) (t : ToA) (hn : RnI n X' w' l') : LwI n r (stX 0 t x) (stX 0 t y) X' w' l' :=
  ⟨⟨stX_ok h.c.x in0 t, stX_ok h.c.y in0 t⟩, (tak_0 h.clk _).1, (tak_0 h.clk _).2.trans h.r, hn⟩
end Lm
end Go.Proofs.YtmpemhbfgbochaaDoor
namespace Go.Proofs.YtmpemhbfgbochaaDoor
set_option linter.unusedSimpArgs false
set_option linter.unusedVariables false
set_option linter.unnecessarySimpa false
open Go.RX Fx
namespace Lm
open Bu Wo
set_option maxRecDepth 8000
def BkI (at_ ns : List Int) (x : BkA) : Prop := ns.length = at_.length ∧ ∀ i t, at_[i]? = some t → ∃ c q : Int, c ≤ t ∧ t < c + x.r.every ∧ 0 ≤ q ∧ x.clk = c + q * x.r.every ∧ (ns.drop i).sum + x.have_ ≤ x.r.burst + q * x.r.many
def Fair (r : RtA) (at_ ns : List Int) : Prop := ∀ i j ti tj, i ≤ j → at_[i]? = some ti → at_[j]? = some tj → ((ns.take (j + 1)).drop i).sum ≤ r.burst + ((tj - ti) / r.every + 1) * r.many
theorem bki_nil (x : BkA) : BkI [] [] x := ⟨rfl, fun i t h => by simp at h⟩
theorem fair_nil (r : RtA) : Fair r [] [] := fun i j ti tj _ h => by simp at h
theorem sum_app (a b : List Int) : (a ++ b).sum = a.sum + b.sum := by
  induction a with
  | nil => simp
  | cons c a ih => simp only [List.cons_append, List.sum_cons, ih]; omega
theorem sum_one (n : Int) : [n].sum = n := by simp
theorem come_add {x : BkA} (h : BkOk x) {now : Int} (hn : InK .u64 now) : ∃ p : Int, 0 ≤ p ∧ (come x now).clk = x.clk + p * x.r.every ∧ (come x now).have_ ≤ x.have_ + p * x.r.many ∧ (x.clk ≤ now → now < (come x now).clk + x.r.every ∧ (come x now).clk ≤ now) := by
  have hm := h.r.m1
  have he := h.r.e1
  unfold come
  split
  · exact ⟨0, Int.le_refl 0, by rw [Int.zero_mul, Int.add_zero], by rw [Int.zero_mul, Int.add_zero]; exact Int.le_refl _, fun hc => ⟨by omega, hc⟩⟩
  · rename_i hc
    obtain ⟨p1, p2, p3, p4⟩ := per_b h hn hc
    have hf := (fil_b h (per x now) p1).1
    refine ⟨per x now, p1, rfl, ?_, fun _ => ⟨?_, by show x.clk + _ ≤ now; omega⟩⟩
    · have : min (per x now) (fil x + 1) * x.r.many ≤ per x now * x.r.many := Int.mul_le_mul_of_nonneg_right (by omega) (by omega)
      show min x.r.burst _ ≤ _
      omega
    · show now < x.clk + per x now * x.r.every + x.r.every
      have h1 := Int.ediv_mul_add_emod (now - x.clk) x.r.every
      have h2 := Int.emod_lt_of_pos (now - x.clk) (show 0 < x.r.every by omega)
      unfold per; omega
theorem tak_of {x : BkA} {now n : Int} (h0 : 0 ≤ n) (hn : n ≤ (come x now).have_) : (tak x now n).have_ = (come x now).have_ - n ∧ (tak x now n).clk = (come x now).clk ∧ (tak x now n).r = x.r := by
  unfold tak
  split
  · refine ⟨?_, rfl, come_r x now⟩
    omega
  · refine ⟨?_, rfl, come_r x now⟩
    show (come x now).have_ - min n (come x now).have_ = _
    omega
theorem BkI.take {at_ ns : List Int} {x : BkA} (hI : BkI at_ ns x) (h : BkOk x) {now n : Int} (hn : InK .u64 now) (hclk : x.clk ≤ now) (h0 : 0 ≤ n) (hle : n ≤ (come x now).have_) : BkI (at_ ++ [now]) (ns ++ [n]) (tak x now n) := by
  obtain ⟨e1, e2, e3⟩ := tak_of h0 hle
  obtain ⟨p, p0, p1, p2, p3⟩ := come_add h hn
  obtain ⟨p4, p5⟩ := p3 hclk
  have hco := come_ok h hn
  have hb := hco.h1
  rw [come_r] at hb
  refine ⟨by simp [hI.1], fun i t hi => ?_⟩
  rw [e1, e2, e3]
  by_cases hlt : i < at_.length
  · rw [List.getElem?_append_left hlt] at hi
    obtain ⟨c, q, h1, h2, h3, h4, h5⟩ := hI.2 i t hi
    refine ⟨c, q + p, h1, h2, by omega, by rw [p1, h4, Int.add_mul]; omega, ?_⟩
    rw [List.drop_append_of_le_length (by rw [hI.1]; omega), sum_app, sum_one, Int.add_mul]
    omega
  · have hie : i = at_.length := by
      have := (List.getElem?_eq_some_iff.1 hi).1
      simp at this; omega
    subst hie
    rw [List.getElem?_append_right (Nat.le_refl _)] at hi
    have ht : t = now := by simpa using hi.symm
    subst ht
    refine ⟨(come x t).clk, 0, p5, p4, Int.le_refl 0, by rw [Int.zero_mul, Int.add_zero], ?_⟩
    rw [List.drop_append_of_le_length (by rw [hI.1]; exact Nat.le_refl _), List.drop_of_length_le (by rw [hI.1]; exact Nat.le_refl _), List.nil_append, sum_one, Int.zero_mul]
    omega
theorem BkI.more {at_ ns : List Int} {x : BkA} {m n now : Int} (hI : BkI at_ (ns ++ [m]) x) (hc : come x now = x) (h0 : 0 ≤ n) (hle : n ≤ x.have_) : BkI at_ (ns ++ [m + n]) (tak x now n) := by
  obtain ⟨e1, e2, e3⟩ := tak_of (x := x) (now := now) h0 (by rw [hc]; exact hle)
  rw [hc] at e1 e2
  have hl := hI.1
  rw [List.length_append] at hl
  refine ⟨by rw [List.length_append]; exact hl, fun i t hi => ?_⟩
  obtain ⟨c, q, h1, h2, h3, h4, h5⟩ := hI.2 i t hi
  have hil := (List.getElem?_eq_some_iff.1 hi).1
  rw [e1, e2, e3]
  refine ⟨c, q, h1, h2, h3, h4, ?_⟩
  have hi2 : i ≤ ns.length := by simp at hl; omega
  rw [List.drop_append_of_le_length hi2, sum_app, sum_one] at h5 ⊢
  omega
theorem BkI.fair {at_ ns : List Int} {x : BkA} {now n : Int} (hI : BkI (at_ ++ [now]) (ns ++ [n]) x) (h : BkOk x) (hclk : x.clk ≤ now) (hF : Fair x.r at_ ns) (hl : ns.length = at_.length) : Fair x.r (at_ ++ [now]) (ns ++ [n]) := fun i j ti tj hij hi hj => by
  by_cases hlt : j < at_.length
  · rw [List.getElem?_append_left hlt] at hj
    rw [List.getElem?_append_left (by omega)] at hi
    have := hF i j ti tj hij hi hj
    rwa [List.take_append_of_le_length (by omega)]
  · have hje : j = at_.length := by
      have := (List.getElem?_eq_some_iff.1 hj).1
      simp at this; omega
    subst hje
    rw [List.getElem?_append_right (Nat.le_refl _)] at hj
    have ht : tj = now := by simpa using hj.symm
    subst ht
    obtain ⟨c, q, h1, h2, h3, h4, h5⟩ := hI.2 i ti hi
    rw [List.take_of_length_le (by rw [List.length_append, hl]; simp)]
    have h0 := h.h0
    have he := h.r.e1
    have hm := h.r.m1
    have hq : q ≤ (tj - ti) / x.r.every + 1 := by
      have h6 : (q - 1) * x.r.every ≤ tj - ti := by rw [Int.sub_mul, Int.one_mul]; omega
      have := (Int.le_ediv_iff_mul_le (a := q - 1) (b := tj - ti) (c := x.r.every) (by omega)).2 h6
      omega
    have h7 : q * x.r.many ≤ ((tj - ti) / x.r.every + 1) * x.r.many := Int.mul_le_mul_of_nonneg_right hq (by omega)
    omega
theorem tak_clk {x : BkA} (h : BkOk x) {now : Int} (hn : InK .u64 now) (hc : x.clk ≤ now) (n : Int) : (tak x now n).clk ≤ now ∧ (tak x now n).r = x.r := by
  obtain ⟨p, p0, p1, p2, p3⟩ := come_add h hn
  unfold tak
  split
  · exact ⟨(p3 hc).2, come_r x now⟩
  · exact ⟨(p3 hc).2, come_r x now⟩
theorem come_tak {x : BkA} (h : BkOk x) {now : Int} (hn : InK .u64 now) (hc : x.clk ≤ now) (n : Int) : come (tak x now n) now = tak x now n := by
  have ho := tak_ok h hn n
  obtain ⟨p, p0, p1, p2, p3⟩ := come_add h hn
  have hcl : (tak x now n).clk = (come x now).clk := by unfold tak; split <;> rfl
  have hr : (tak x now n).r = x.r := (tak_clk h hn hc n).2
  have he := h.r.e1
  obtain ⟨y, hy⟩ : ∃ y, tak x now n = y := ⟨_, rfl⟩
  rw [hy] at ho hcl hr ⊢
  unfold come
  split
  · rfl
  · have hz : per y now = 0 := by
      unfold per
      rw [hr, hcl]
      exact Int.ediv_eq_zero_of_lt (by have := (p3 hc).2; omega) (by have := (p3 hc).1; omega)
    have hf := (fil_b ho 0 (by omega)).1
    have h1 := ho.h1
    rw [hz]
    obtain ⟨r, hv, c⟩ := y
    show BkA.mk r (min r.burst (hv + min 0 (_ + 1) * r.many)) (c + 0 * r.every) = _
    rw [show min (0 : Int) (fil ⟨r, hv, c⟩ + 1) = 0 by omega, Int.zero_mul, Int.zero_mul]
    congr 1
    · have h1' : hv ≤ r.burst := h1
      omega
    · omega
theorem readR_n (w : WA) (fd n : Int) : (readR w fd n).1.1.length ≤ n.toNat := by
  unfold readR
  repeat' split
  all_goals first
    | (simp only [List.length_nil]; omega)
    | (rw [List.length_take]; omega)
theorem writeR_0 (w : WA) (fd : Int) (bs : List UInt8) : 0 ≤ (writeR w fd bs).1.1 := by
  unfold writeR
  repeat' split
  all_goals first
    | (dsimp only; omega)
theorem readS_io {X : BfA} {w : WA} {t : ToA} (now most : Int) : (readS ⟨X, w, t⟩ now most).t.o = t.o ∧ ((readS ⟨X, w, t⟩ now most).t.i = t.i ∨ (0 ≤ (readS ⟨X, w, t⟩ now most).t.i ∧ (readS ⟨X, w, t⟩ now most).t.i ≤ max 0 most ∧ (readS ⟨X, w, t⟩ now most).t.i ≤ 4096)) := by
  unfold readS
  dsimp only
  split
  · exact ⟨rfl, .inl rfl⟩
  · have hn := rdN_le (X.s 0) most
    have hr := readR_n w X.fd (rdN (X.s 0) most)
    unfold rdP
    repeat' split
    all_goals first
      | exact ⟨rfl, .inl rfl⟩
      | (refine ⟨rfl, .inr ?_⟩; dsimp only; omega)
theorem writeS_io {X : BfA} {w : WA} {t : ToA} (now much : Int) : (writeS ⟨X, w, t⟩ now much).t.i = t.i ∧ ((writeS ⟨X, w, t⟩ now much).t.o = t.o ∨ (0 ≤ (writeS ⟨X, w, t⟩ now much).t.o ∧ (writeS ⟨X, w, t⟩ now much).t.o ≤ 4096)) := by
  unfold writeS
  dsimp only
  split
  · exact ⟨rfl, .inl rfl⟩
  · have h0 := writeR_0 w X.fd (offA (X.s 1) much)
    have h1 := writeR_le w X.fd (offA (X.s 1) much)
    have h2 : (offA (X.s 1) much).length ≤ 4096 := by rw [offA_pre, List.length_take]; omega
    unfold wrP
    repeat' split
    all_goals first
      | exact ⟨rfl, .inl rfl⟩
      | (refine ⟨rfl, .inr ?_⟩; dsimp only; omega)
theorem step_io (X : BfA) (w : WA) (now flags most much : Int) : 0 ≤ (stepS X w now flags most much).t.i ∧ (stepS X w now flags most much).t.i ≤ max 0 most ∧ (stepS X w now flags most much).t.i ≤ 4096 ∧ 0 ≤ (stepS X w now flags most much).t.o ∧ (stepS X w now flags most much).t.o ≤ 4096 := by
  have hR : 0 ≤ (stepR X w now flags most).t.i ∧ (stepR X w now flags most).t.i ≤ max 0 most ∧ (stepR X w now flags most).t.i ≤ 4096 ∧ (stepR X w now flags most).t.o = 0 := by
    unfold stepR
    split
    · have h := readS_io (X := X) (w := w) (t := noT) now most
      have h0 : noT.i = 0 := rfl
      have h1 : noT.o = 0 := rfl
      rw [h0, h1] at h
      omega
    · show (0 : Int) ≤ 0 ∧ (0 : Int) ≤ max 0 most ∧ (0 : Int) ≤ 4096 ∧ (0 : Int) = 0
      omega
  unfold stepS
  split
  · have h := writeS_io (X := (stepR X w now flags most).x) (w := (stepR X w now flags most).w) (t := (stepR X w now flags most).t) now much
    have e : (⟨(stepR X w now flags most).x, (stepR X w now flags most).w, (stepR X w now flags most).t⟩ : StA) = stepR X w now flags most := rfl
    rw [e] at h
    omega
  · omega
end Lm
end Go.Proofs.YtmpemhbfgbochaaDoor
namespace Go.Proofs.YtmpemhbfgbochaaDoor
set_option linter.unusedSimpArgs false
set_option linter.unusedVariables false
set_option linter.unnecessarySimpa false
open Go.RX Fx
namespace Lm
open Bu Wo
set_option maxRecDepth 8000
theorem lv_x {s gs : Option Nat} {X Y : BkA} (hX : BkOk X) (h : s.isSome = true) : lvS s gs X Y ≤ X.have_ := by
  have h1 := nV_le X Y [0] (if gs.isSome = true then [1] else [])
  have e : itS s gs = [0] ++ (if gs.isSome = true then [1] else []) := by unfold itS; rw [if_pos h]
  have e2 : nV X Y [0] = min 4096 X.have_ := rfl
  have h0 := hX.h0
  unfold lvS
  rw [e]
  generalize nV X Y ([0] ++ if gs.isSome = true then [1] else []) = v at h1 ⊢
  split <;> omega
theorem lv_y {s gs : Option Nat} {X Y : BkA} (hY : BkOk Y) (h : gs.isSome = true) : lvS s gs X Y ≤ Y.have_ := by
  have h1 := nV_snoc X Y (if s.isSome = true then [0] else []) 1
  have e : itS s gs = (if s.isSome = true then [0] else []) ++ [1] := by unfold itS; rw [if_pos h]
  have e2 : (if (1 : Nat) = 0 then X.have_ else Y.have_) = Y.have_ := rfl
  have h0 := hY.h0
  rw [e2] at h1
  unfold lvS
  rw [e, h1]
  split <;> omega
def xU (x : Nat → Nat → BkA) (k : Nat) (v : Nat → BkA) : Nat → Nat → BkA := fun j => if j = k then v else x j
theorem xU_at (x : Nat → Nat → BkA) (k : Nat) (v : Nat → BkA) : xU x k v k = v := if_pos rfl
theorem xU_ne (x : Nat → Nat → BkA) {k j : Nat} (v : Nat → BkA) (h : j ≠ k) : xU x k v j = x j := if_neg h
def nU (n : Nat → Int) (k : Nat) (v : Int) : Nat → Int := fun j => if j = k then v else n j
theorem nU_at (n : Nat → Int) (k : Nat) (v : Int) : nU n k v k = v := if_pos rfl
theorem nU_ne (n : Nat → Int) {k j : Nat} (v : Int) (h : j ≠ k) : nU n k v j = n j := if_neg h
def pj (j : Nat) (p : Int × Int) : Int := if j = 0 then p.1 else p.2
def ps (p : Int × Int) : Int := p.1 + p.2
theorem pj_n (n : Nat → Int) {j : Nat} (h : j < 2) : pj j (n 0, n 1) = n j := by
  rcases (show j = 0 ∨ j = 1 by omega) with rfl | rfl <;> rfl
structure LbM (own all : RtA) (now : Int) (AT : List Int) (TK : List (Int × Int)) (k : Nat) (n : Nat → Int) (x : Nat → Nat → BkA) (y : Nat → BkA) : Prop where
  hx : ∀ j i, BkOk (x j i)
  hy : ∀ i, BkOk (y i)
  cx : ∀ j, (x j 0).clk ≤ now
  cy : (y 0).clk ≤ now
  n0 : ∀ j, 0 ≤ n j ∧ n j ≤ 4096
  o : 0 < own.every → ∀ j, j < 2 → (x j 0).r = own ∧ (k ≤ j → BkI AT (TK.map (pj j)) (x j 0)) ∧ (j < k → BkI (AT ++ [now]) (TK.map (pj j) ++ [n j]) (x j 0))
  a : 0 < all.every → (y 0).r = all ∧ (k = 0 → BkI AT (TK.map ps) (y 0)) ∧ (k = 1 → BkI (AT ++ [now]) (TK.map ps ++ [n 0]) (y 0) ∧ come (y 0) now = y 0) ∧ (k = 2 → BkI (AT ++ [now]) (TK.map ps ++ [n 0 + n 1]) (y 0))
theorem LbM.step {own all : RtA} {now : Int} {AT : List Int} {TK : List (Int × Int)} {k : Nat} {n : Nat → Int} {x : Nat → Nat → BkA} {y : Nat → BkA} (h : LbM own all now AT TK k n x y) (hk : k < 2) (hn : InK .u64 now) (t : ToA) (h0 : 0 ≤ t.i) (h1 : t.i ≤ 4096) (hx : 0 < own.every → t.i ≤ (come (x k 0) now).have_) (hy : 0 < all.every → t.i ≤ (come (y 0) now).have_) :
    LbM own all now AT TK (k + 1) (nU n k t.i) (xU x k (stX now t (x k))) (stX now t y) where
  hx := fun j i => by
    by_cases e : j = k
    · subst e; rw [xU_at]; exact stX_ok (h.hx j) hn t i
    · rw [xU_ne _ _ e]; exact h.hx j i
  hy := fun i => stX_ok h.hy hn t i
  cx := fun j => by
    by_cases e : j = k
    · subst e; rw [xU_at]; exact (tak_clk (h.hx j 0) hn (h.cx j) t.i).1
    · rw [xU_ne _ _ e]; exact h.cx j
  cy := (tak_clk (h.hy 0) hn h.cy t.i).1
  n0 := fun j => by
    by_cases e : j = k
    · subst e; rw [nU_at]; exact ⟨h0, h1⟩
    · rw [nU_ne _ _ e]; exact h.n0 j
  o := fun ho j hj => by
    obtain ⟨q1, q2, q3⟩ := h.o ho j hj
    by_cases e : j = k
    · subst e
      rw [xU_at, nU_at]
      exact ⟨(tak_clk (h.hx j 0) hn (h.cx j) t.i).2.trans q1, fun hc => absurd hc (by omega), fun _ => (q2 (Nat.le_refl _)).take (h.hx j 0) hn (h.cx j) h0 (hx ho)⟩
    · rw [xU_ne _ _ e, nU_ne _ _ e]
      exact ⟨q1, fun hc => q2 (by omega), fun hc => q3 (by omega)⟩
  a := fun ha => by
    obtain ⟨q1, q2, q3, q4⟩ := h.a ha
    have hc := tak_clk (h.hy 0) hn h.cy t.i
    rcases (show k = 0 ∨ k = 1 by omega) with rfl | rfl
    · refine ⟨hc.2.trans q1, fun e => absurd e (by omega), fun _ => ⟨?_, come_tak (h.hy 0) hn h.cy t.i⟩, fun e => absurd e (by omega)⟩
      rw [nU_at]
      exact (q2 rfl).take (h.hy 0) hn h.cy h0 (hy ha)
    · obtain ⟨q5, q6⟩ := q3 rfl
      refine ⟨hc.2.trans q1, fun e => absurd e (by omega), fun e => absurd e (by omega), fun _ => ?_⟩
      rw [nU_at, nU_ne _ _ (show 0 ≠ 1 by decide)]
      exact q5.more q6 h0 (by have := hy ha; rwa [q6] at this)
theorem LbM.later {own all : RtA} {now now' : Int} {AT : List Int} {TK : List (Int × Int)} {n n' : Nat → Int} {x : Nat → Nat → BkA} {y : Nat → BkA} (h : LbM own all now AT TK 0 n x y) (hle : now ≤ now') (h0 : ∀ j, 0 ≤ n' j ∧ n' j ≤ 4096) : LbM own all now' AT TK 0 n' x y where
  hx := h.hx
  hy := h.hy
  cx := fun j => Int.le_trans (h.cx j) hle
  cy := Int.le_trans h.cy hle
  n0 := h0
  o := fun ho j hj => ⟨(h.o ho j hj).1, (h.o ho j hj).2.1, fun e => absurd e (by omega)⟩
  a := fun ha => ⟨(h.a ha).1, (h.a ha).2.1, fun e => absurd e (by omega), fun e => absurd e (by omega)⟩
structure LbO (own all : RtA) (now : Int) (AT : List Int) (TK : List (Int × Int)) (x : Nat → Nat → BkA) (y : Nat → BkA) : Prop where
  m : LbM own all now AT TK 0 (fun _ => 0) x y
  len : TK.length = AT.length
  srt : ∀ (i j : Nat) (ti tj : Int), i ≤ j → AT[i]? = some ti → AT[j]? = some tj → 0 ≤ ti ∧ ti ≤ tj ∧ tj ≤ now
  bnd : ∀ p ∈ TK, 0 ≤ p.1 ∧ p.1 ≤ 4096 ∧ 0 ≤ p.2 ∧ p.2 ≤ 4096
  fo : 0 < own.every → ∀ j, j < 2 → Fair own AT (TK.map (pj j))
  fa : 0 < all.every → Fair all AT (TK.map ps)
theorem get_snoc {α : Type} {l : List α} {a b : α} {i : Nat} (h : (l ++ [a])[i]? = some b) : (i < l.length ∧ l[i]? = some b) ∨ (i = l.length ∧ b = a) := by
  by_cases hlt : i < l.length
  · rw [List.getElem?_append_left hlt] at h; exact .inl ⟨hlt, h⟩
  · have hle : i = l.length := by
      have := (List.getElem?_eq_some_iff.1 h).1
      simp at this; omega
    subst hle
    rw [List.getElem?_append_right (Nat.le_refl _)] at h
    exact .inr ⟨rfl, by simpa using h.symm⟩
theorem LbO.push {own all : RtA} {now0 now : Int} {AT : List Int} {TK : List (Int × Int)} {n : Nat → Int} {x0 x : Nat → Nat → BkA} {y0 y : Nat → BkA} (h : LbO own all now0 AT TK x0 y0) (h00 : 0 ≤ now0) (hle : now0 ≤ now) (m : LbM own all now AT TK 2 n x y) : LbO own all now (AT ++ [now]) (TK ++ [(n 0, n 1)]) x y where
  m := {
    hx := m.hx
    hy := m.hy
    cx := m.cx
    cy := m.cy
    n0 := fun _ => ⟨by decide, by decide⟩
    o := fun ho j hj => ⟨(m.o ho j hj).1, fun _ => by
      rw [List.map_append, List.map_singleton, pj_n n hj]
      exact (m.o ho j hj).2.2 hj, fun e => absurd e (by omega)⟩
    a := fun ha => ⟨(m.a ha).1, fun _ => by
      rw [List.map_append, List.map_singleton]
      exact (m.a ha).2.2.2 rfl, fun e => absurd e (by omega), fun e => absurd e (by omega)⟩ }
  len := by rw [List.length_append, List.length_append, h.len]; rfl
  srt := fun i j ti tj hij hi hj => by
    rcases get_snoc hi with ⟨a1, a2⟩ | ⟨a1, a2⟩
    · rcases get_snoc hj with ⟨b1, b2⟩ | ⟨b1, b2⟩
      · have := h.srt i j ti tj hij a2 b2; omega
      · have := h.srt i i ti ti (Nat.le_refl _) a2 a2; omega
    · rcases get_snoc hj with ⟨b1, b2⟩ | ⟨b1, b2⟩
      · omega
      · omega
  bnd := fun p hp => by
    rcases List.mem_append.1 hp with hp | hp
    · exact h.bnd p hp
    · obtain rfl : p = (n 0, n 1) := by simpa using hp
      exact ⟨(m.n0 0).1, (m.n0 0).2, (m.n0 1).1, (m.n0 1).2⟩
  fo := fun ho j hj => by
    rw [List.map_append, List.map_singleton, pj_n n hj]
    obtain ⟨q1, _, q3⟩ := m.o ho j hj
    have := (q3 hj).fair (m.hx j 0) (m.cx j) (by rw [q1]; exact h.fo ho j hj) (by rw [List.length_map, h.len])
    rwa [q1] at this
  fa := fun ha => by
    rw [List.map_append, List.map_singleton]
    obtain ⟨q1, _, _, q4⟩ := m.a ha
    have := (q4 rfl).fair (m.hy 0) m.cy (by rw [q1]; exact h.fa ha) (by rw [List.length_map, h.len])
    rwa [q1] at this
theorem lb_start {own all : RtA} {x : Nat → Nat → BkA} {y : Nat → BkA} (hx : ∀ j i, BkOk (x j i)) (hy : ∀ i, BkOk (y i)) (cx : ∀ j, (x j 0).clk = 0) (cy : (y 0).clk = 0) (rx : 0 < own.every → ∀ j, (x j 0).r = own) (ry : 0 < all.every → (y 0).r = all) : LbO own all 0 [] [] x y where
  m := {
    hx := hx
    hy := hy
    cx := fun j => by rw [cx]; exact Int.le_refl _
    cy := by rw [cy]; exact Int.le_refl _
    n0 := fun _ => ⟨by decide, by decide⟩
    o := fun ho j _ => ⟨rx ho j, fun _ => bki_nil _, fun e => absurd e (by omega)⟩
    a := fun ha => ⟨ry ha, fun _ => bki_nil _, fun e => absurd e (by omega), fun e => absurd e (by omega)⟩ }
  len := rfl
  srt := fun i j ti tj _ hi => by simp at hi
  bnd := fun p hp => by simp at hp
  fo := fun _ _ _ => fair_nil _
  fa := fun _ => fair_nil _
def sumR (l : List Int) (i k : Nat) : Int := ((l.take k).drop i).sum
theorem sumR_0 (l : List Int) (i : Nat) : sumR l i i = 0 := by
  unfold sumR
  rw [List.drop_of_length_le (by rw [List.length_take]; omega)]; rfl
theorem sumR_succ {l : List Int} {i k : Nat} {v : Int} (hv : l[k]? = some v) (hi : i ≤ k) : sumR l i (k + 1) = sumR l i k + v := by
  have hk := (List.getElem?_eq_some_iff.1 hv).1
  unfold sumR
  rw [List.take_add_one, hv, List.drop_append_of_le_length (by rw [List.length_take]; omega), sum_app]
  show _ + [v].sum = _
  rw [sum_one]
theorem sumR_ps (l : List (Int × Int)) (i k : Nat) : sumR (l.map ps) i k = sumR (l.map (pj 0)) i k + sumR (l.map (pj 1)) i k := by
  unfold sumR
  rw [← List.map_take, ← List.map_take, ← List.map_take, ← List.map_drop, ← List.map_drop, ← List.map_drop]
  generalize (l.take k).drop i = m
  induction m with
  | nil => rfl
  | cons p m ih =>
    simp only [List.map_cons, List.sum_cons, ih]
    have e1 : ps p = pj 0 p + pj 1 p := rfl
    omega
theorem fair_at {r : RtA} {AT ns : List Int} (h : Fair r AT ns) {i k : Nat} {ti tk : Int} (hik : i ≤ k) (hi : AT[i]? = some ti) (hk : AT[k]? = some tk) : sumR ns i (k + 1) ≤ r.burst + ((tk - ti) / r.every + 1) * r.many := h i k ti tk hik hi hk
theorem fair_b {r : RtA} (h : RtOk r) {d : Int} (h0 : 0 ≤ d) (h1 : d ≤ 3276750) : 0 ≤ d / r.every ∧ d / r.every ≤ 3276750 ∧ 0 ≤ (d / r.every + 1) * r.many ∧ (d / r.every + 1) * r.many ≤ 3276751 * 2147483647 := by
  have he := h.e1
  have hm := h.m1
  have hm2 := h.m2
  have a1 : 0 ≤ d / r.every := Int.ediv_nonneg h0 (by omega)
  have a2 : d / r.every * r.every ≤ d := Int.ediv_mul_le _ (by omega)
  have a3 : d / r.every ≤ d / r.every * r.every := by
    have := Int.mul_le_mul_of_nonneg_left he a1
    rwa [Int.mul_one] at this
  exact ⟨a1, by omega, Int.mul_nonneg (by omega) (by omega), Int.mul_le_mul (by omega) hm2 (by omega) (by omega)⟩
end Lm
end Go.Proofs.YtmpemhbfgbochaaDoor
namespace Go.Proofs.YtmpemhbfgbochaaDoor
set_option linter.unusedSimpArgs false
set_option linter.unusedVariables false
set_option linter.unnecessarySimpa false
open Go.RX Fx
namespace Lm
open Bu Wo
set_option maxRecDepth 8000
theorem ex_out {ι : Type} {f : ι → List SP} {L : List SP} {h : PH} (s : sep (RX.ex f :: L) h) : ∃ i, sep (f i ++ L) h := by
  obtain ⟨h1, h2, d, aa, b, ⟨i, x⟩, y⟩ := s
  exact ⟨i, sep_join d aa b x y⟩
structure LrA where
  lb : Nat
  b : Nat
  s : Nat → Option Nat
def LimP (wb gb : Nat) (r : LrA) (x : Nat → BkA) (X : BfA) : SP := RX.ex fun _ : Unit => [LmH r.lb ⟨r.b, r.s, some gb⟩, SlB (r.s 0) (x 0), SlB (r.s 1) (x 1), BufP r.b wb X]
theorem lim_in {wb gb : Nat} {r : LrA} {x : Nat → BkA} {X : BfA} {L : List SP} : ∀ h, sep (LmH r.lb ⟨r.b, r.s, some gb⟩ :: SlB (r.s 0) (x 0) :: SlB (r.s 1) (x 1) :: BufP r.b wb X :: L) h → sep (LimP wb gb r x X :: L) h := fun h s => by
  unfold LimP
  exact Ent.sep (.ex () (.pick .here (.pick .here (.pick .here (.pick .here .same))))) h s
theorem lim_out {wb gb : Nat} {r : LrA} {x : Nat → BkA} {X : BfA} {L : List SP} : ∀ h, sep (LimP wb gb r x X :: L) h → sep (LmH r.lb ⟨r.b, r.s, some gb⟩ :: SlB (r.s 0) (x 0) :: SlB (r.s 1) (x 1) :: BufP r.b wb X :: L) h := fun h s => by
  unfold LimP at s
  obtain ⟨_, t⟩ := ex_out s
  exact t
theorem lim_open {wb gb : Nat} {r : LrA} {x y : Nat → BkA} {X : BfA} {G : GrA} {L : List SP} : ∀ h, sep (LimP wb gb r x X :: GrH gb G :: SlB (G.b 0) (y 0) :: SlB (G.b 1) (y 1) :: L) h → sep (LgL r.lb ⟨r.b, r.s, some gb⟩ G x y (BufP r.b wb X :: L)) h := fun h s => by
  have t := lim_out h s
  refine lg_gr rfl h ?_
  exact Ent.sep (.pick .here (.pick (.there (.there (.there .here))) (.pick .here (.pick .here (.pick (.there .here) (.pick (.there .here) .same)))))) h t
theorem lim_shut {wb gb : Nat} {r : LrA} {x y : Nat → BkA} {X : BfA} {G : GrA} {L : List SP} : ∀ h, sep (LgL r.lb ⟨r.b, r.s, some gb⟩ G x y (BufP r.b wb X :: L)) h → sep (LimP wb gb r x X :: GrH gb G :: SlB (G.b 0) (y 0) :: SlB (G.b 1) (y 1) :: L) h := fun h s => by
  have t := lg_grb (gb := gb) rfl h s
  refine lim_in h ?_
  exact Ent.sep (.pick .here (.pick (.there .here) (.pick (.there .here) (.pick (.there (.there (.there .here))) .same)))) h t
theorem two_k {f : Nat → SP} {k : Nat} (hk : k < 2) {L : List SP} : ∀ h, sep (f 0 :: f 1 :: L) h → sep (f k :: f (1 - k) :: L) h := fun h s => by
  rcases (show k = 0 ∨ k = 1 by omega) with rfl | rfl
  · exact s
  · exact Ent.sep (.pick (.there .here) .same) h s
theorem two_l {f : Nat → SP} {k : Nat} (hk : k < 2) {L : List SP} : ∀ h, sep (f k :: f (1 - k) :: L) h → sep (f 0 :: f 1 :: L) h := fun h s => by
  rcases (show k = 0 ∨ k = 1 by omega) with rfl | rfl
  · exact s
  · exact Ent.sep (.pick (.there .here) .same) h s
def FkP (f : Nat → SP) : Nat → SP
  | 0 => pu True
  | k + 1 => RX.ex fun _ : Unit => [FkP f k, f k]
theorem fkP_congr {f g : Nat → SP} : ∀ {k : Nat}, (∀ j, j < k → f j = g j) → FkP f k = FkP g k
  | 0, _ => rfl
  | k + 1, h => by
    have e1 : FkP f k = FkP g k := fkP_congr fun j hj => h j (by omega)
    have e2 : f k = g k := h k (by omega)
    unfold FkP
    rw [e1, e2]
theorem fk_in {f g : Nat → SP} {k : Nat} (h : ∀ j, j < k → g j = f j) {L : List SP} : ∀ q, sep (FkP f k :: g k :: L) q → sep (FkP g (k + 1) :: L) q := fun q s => by
  rw [← fkP_congr h] at s
  exact Ent.sep (.ex () (.pick .here (.pick .here .same))) q s
theorem fk_two {f : Nat → SP} {L : List SP} : ∀ q, sep (FkP f 2 :: L) q → sep (f 0 :: f 1 :: L) q := fun q s => by
  obtain ⟨_, s1⟩ := ex_out (f := fun _ : Unit => [FkP f 1, f 1]) s
  obtain ⟨_, s2⟩ := ex_out (f := fun _ : Unit => [FkP f 0, f 0]) s1
  exact Ent.sep (.pick (.there .here) (.pick (.there .here) (.skip .same))) q s2
def rU (r : Nat → LrA) (k : Nat) (v : LrA) : Nat → LrA := fun j => if j = k then v else r j
theorem rU_at (r : Nat → LrA) (k : Nat) (v : LrA) : rU r k v k = v := if_pos rfl
theorem rU_ne (r : Nat → LrA) {k j : Nat} (v : LrA) (h : j ≠ k) : rU r k v j = r j := if_neg h
def bU (x : Nat → BfA) (k : Nat) (v : BfA) : Nat → BfA := fun j => if j = k then v else x j
theorem bU_at (x : Nat → BfA) (k : Nat) (v : BfA) : bU x k v k = v := if_pos rfl
theorem bU_ne (x : Nat → BfA) {k j : Nat} (v : BfA) (h : j ≠ k) : bU x k v j = x j := if_neg h
def lps (r : Nat → LrA) (k : Nat) : List Value := (List.range k).map fun j => .pointer (some ⟨(r j).lb, 0, none⟩)
theorem lps_succ (r : Nat → LrA) (k : Nat) (v : LrA) : lps (rU r k v) (k + 1) = lps r k ++ [.pointer (some ⟨v.lb, 0, none⟩)] := by
  unfold lps
  rw [List.range_succ, List.map_append, List.map_singleton, rU_at]
  congr 1
  refine List.map_congr_left fun j hj => ?_
  rw [rU_ne _ _ (by have := List.mem_range.1 hj; omega)]
theorem lps_at (r : Nat → LrA) {j k : Nat} (h : j < k) : (lps r k)[j * 1]? = some (.pointer (some ⟨(r j).lb, 0, none⟩)) := by
  unfold lps
  rw [Nat.mul_one, List.getElem?_map, List.getElem?_range h]; rfl
def Wk : Nat → WA
  | 0 => newA
  | k + 1 => mkW (Wk k) 2 (halfW 60000 2)
theorem wk_op {k : Nat} (hk : k < 2) : (readyR (Wk (k + 1)) (2 * (k : Int))).op = true := by
  rcases (show k = 0 ∨ k = 1 by omega) with rfl | rfl
  · decide +kernel
  · decide +kernel
abbrev X0 (k : Nat) : BfA := enB (newB (2 * (k : Int))) 0 2
theorem x0_ok (k : Nat) : BOk (X0 k) := bok_en (bok_new _) in0 2
abbrev encP (p : Int × Int) : List Value := [.int .i64 p.1, .int .i64 p.2]
set_option maxHeartbeats 2000000 in
theorem lb_bad (L : List SP) (hF : Rd L 0 0 flV) (own all : RtA) (hB : mayB (rts all r0) = false) (ga : Option Addr) (gc : Nat) (gaps : List Int) (hG : RdS L 1 ga gaps.length (gaps.map fun y => .int .u16 y)) : Ct Tryd.prog 5 #[.agg (encRt own).toArray, .agg (encRt all).toArray, .slice ga gaps.length gc] (L) (fun _ : Unit => .bool true) (fun _ : Unit => L) := by
  refine Ct.of (vs := [.agg (encRt own).toArray, .agg (encRt all).toArray, .slice ga gaps.length gc]) Tryd.func5 rfl rfl [(0, .agg (encRt own).toArray), (1, .agg (encRt all).toArray), (2, .slice ga gaps.length gc)] (by repeat (first | exact trivial | refine ⟨rfl, ?_⟩)) ?_
  intro E
  show Hd E 229 _ _ _ _
  refine Hd.seq (fun K1 hK1 => ?_)
  refine Hd.region ?_
  refine Hd.box rfl rfl (fun b3 => ?_)
  refine Hd.box rfl rfl (fun b4 => ?_)
  refine Hd.yv (y_assign rfl) ?_
  refine Hd.nil ?_
  refine Hd.slots [(2, _), (3, _), (4, _)] ⟨rfl, rfl, rfl, trivial⟩ ?_
  refine Hd.toK hK1 ?_
  refine Hd.seq (fun K2 hK2 => ?_)
  refine Hd.region ?_
  refine Hd.callE rfl fk7 (alive27_ct _ ?hF) (Ent.sep enn) ?_
  case hF => exact Rd.mono hF (Ent.sep enn)
  intro _
  refine Hd.yv (y_assign rfl) ?_
  refine Hd.nil ?_
  refine Hd.slots [(2, _), (3, _), (4, _), (7, _)] ⟨rfl, rfl, rfl, rfl, trivial⟩ ?_
  refine Hd.toK hK2 ?_
  refine Hd.seq (fun K3 hK3 => ?_)
  refine Hd.seq (fun K4 hK4 => ?_)
  refine Hd.region ?_
  refine Hd.yv (y_move rfl) ?_
  refine Hd.yv (y_len Tryd.underlying57 rfl) ?_
  refine Hd.yv (y_gtr rfl rfl) ?_
  refine Hd.yv (y_move rfl) ?_
  apply Hd.org 3 35 38 [(2, _), (3, _), (4, _), (7, _)] rfl ⟨rfl, rfl, rfl, rfl, trivial⟩
  · intro hg2_35
    try simp only [decide_eq_true_eq, decide_eq_false_iff_not, Bool.and_eq_true, Bool.or_eq_true, Bool.and_eq_false_iff, Bool.or_eq_false_iff, Bool.not_eq_true', Bool.not_eq_false', Bool.not_eq_true, Bool.not_eq_false, Int.not_lt, Int.not_le, Decidable.not_not, ne_eq] at hg2_35
    simp only [List.take]
    refine Hd.ng rfl rfl rfl ?_
    refine Hd.ng rfl rfl rfl ?_
    first | (refine Hd.yv (y_pickT rfl rfl) ?_) | (refine Hd.yv (y_pickF rfl rfl) ?_) | (refine Hd.yv (y_pickb rfl rfl rfl) ?_) | (refine Hd.yv (y_pick rfl rfl rfl) ?_)
    refine Hd.nil ?_
    exact Hd.mend (by repeat (first | exact trivial | refine ⟨rfl, ?_⟩)) (Ent.sep enn)
  · intro hg2_35
    try simp only [decide_eq_true_eq, decide_eq_false_iff_not, Bool.and_eq_true, Bool.or_eq_true, Bool.and_eq_false_iff, Bool.or_eq_false_iff, Bool.not_eq_true', Bool.not_eq_false', Bool.not_eq_true, Bool.not_eq_false, Int.not_lt, Int.not_le, Decidable.not_not, ne_eq] at hg2_35
    simp only [List.take]
    refine Hd.yg rfl rfl (y_move rfl) ?_
    refine Hd.yg rfl rfl (y_not rfl) ?_
    first | (refine Hd.yv (y_pickT rfl rfl) ?_) | (refine Hd.yv (y_pickF rfl rfl) ?_) | (refine Hd.yv (y_pickb rfl rfl rfl) ?_) | (refine Hd.yv (y_pick rfl rfl rfl) ?_)
    refine Hd.nil ?_
    exact Hd.mend (by repeat (first | exact trivial | refine ⟨rfl, ?_⟩)) (Ent.sep enn)
  simp only [List.drop]
  refine Hd.nil ?_
  refine Hd.slots [(2, _), (3, _), (4, _), (7, _), (38, _)] ⟨rfl, rfl, rfl, rfl, rfl, trivial⟩ ?_
  refine Hd.toK hK4 ?_
  refine Hd.cond rfl (fun hc0 => ?_) (fun hc0 => ?_)
  ·
    try simp only [decide_eq_true_eq, decide_eq_false_iff_not, Bool.and_eq_true, Bool.or_eq_true, Bool.and_eq_false_iff, Bool.or_eq_false_iff, Bool.not_eq_true', Bool.not_eq_false', Bool.not_eq_true, Bool.not_eq_false, Int.not_lt, Int.not_le, Decidable.not_not, ne_eq] at hc0
    refine Hd.seq (fun K5 hK5 => ?_)
    refine Hd.region ?_
    refine Hd.yv (y_move rfl) ?_
    refine Hd.yv (y_assign rfl) ?_
    refine Hd.nil ?_
    refine Hd.slots [(6, _)] ⟨rfl, trivial⟩ ?_
    refine Hd.toK hK5 ?_
    refine Hd.ret ?_
    refine Hd.thenRet ?_
    clear hK1 hK2 hK3 hK4 hK5
    exact Hd.ret1 rfl () (by first | rfl | (simp only [*]; done) | (simp [*]; done)) (Ent.sep enn)
  ·
    try simp only [decide_eq_true_eq, decide_eq_false_iff_not, Bool.and_eq_true, Bool.or_eq_true, Bool.and_eq_false_iff, Bool.or_eq_false_iff, Bool.not_eq_true', Bool.not_eq_false', Bool.not_eq_true, Bool.not_eq_false, Int.not_lt, Int.not_le, Decidable.not_not, ne_eq] at hc0
    refine Hd.skip ?_
    refine Hd.toK hK3 ?_
    refine Hd.seq (fun K6 hK6 => ?_)
    refine Hd.region ?_
    first | (refine Hd.yv (y_loadn (us := [_, _, _]) ag24 rfl (Rd.pt pkk (by (first | (intro j v e; rcases j with _|_|_|_|_|_|_|_|_|_|_|_|j <;> first | exact e | exact absurd e (by simp))))) (by exact sz24)) ?_) | (refine Hd.yv (y_loadn (us := [_, _, _]) ag24 rfl (Rd.seg pkk (by (first | (intro j v e; rcases j with _|_|_|_|_|_|_|_|_|_|_|_|j <;> first | exact e | exact absurd e (by simp))))) (by exact sz24)) ?_) | (refine Hd.yv (y_loadRn ag24 rfl (by (first | exact RdS.own pkk)) (by (first | (intro j v e; rcases j with _|_|_|_|_|_|_|_|_|_|_|_|j <;> first | exact e | exact absurd e (by simp)))) (by exact sz24) (by simp)) ?_)
    refine Hd.yv (y_build (vs := []) rfl (by first | exact bd5_42 .. | kernel_rfl)) ?_
    refine Hd.callE rfl fk17 (newg_bad _ (rts all r0) hB 0) (Ent.sep enn) ?_
    intro _
    refine Hd.yv (y_move rfl) ?_
    refine Hd.yv (y_to (v' := .pointer none) (y_extract rfl rfl) (by rfl)) ?_
    refine Hd.yv (y_to (v' := .int .i64 80) (y_extract rfl rfl) (by rfl)) ?_
    refine Hd.yv (y_assign rfl) ?_
    refine Hd.yv (y_assign rfl) ?_
    refine Hd.nil ?_
    refine Hd.slots [(2, _), (3, _), (4, _), (7, _), (8, _), (9, _)] ⟨rfl, rfl, rfl, rfl, rfl, rfl, trivial⟩ ?_
    refine Hd.toK hK6 ?_
    refine Hd.seq (fun K7 hK7 => ?_)
    refine Hd.region ?_
    refine Hd.callE rfl fk23 (wnew_ct _) (Ent.sep enn) ?_
    intro wb
    refine Hd.yv (y_assign rfl) ?_
    refine Hd.nil ?_
    refine Hd.slots [(2, _), (3, _), (4, _), (7, _), (8, _), (9, _), (10, _)] ⟨rfl, rfl, rfl, rfl, rfl, rfl, rfl, trivial⟩ ?_
    refine Hd.toK hK7 ?_
    refine Hd.seq (fun K8 hK8 => ?_)
    refine Hd.region ?_
    refine Hd.yv (y_assign rfl) ?_
    refine Hd.nil ?_
    refine Hd.slots [(2, _), (3, _), (4, _), (7, _), (8, _), (9, _), (10, _), (11, _)] ⟨rfl, rfl, rfl, rfl, rfl, rfl, rfl, rfl, trivial⟩ ?_
    refine Hd.toK hK8 ?_
    refine Hd.seq (fun K9 hK9 => ?_)
    refine Hd.seq (fun K10 hK10 => ?_)
    refine Hd.region ?_
    refine Hd.yv (y_assign rfl) ?_
    refine Hd.nil ?_
    refine Hd.slots [(2, _), (3, _), (4, _), (7, _), (8, _), (9, _), (10, _), (11, _), (12, _)] ⟨rfl, rfl, rfl, rfl, rfl, rfl, rfl, rfl, rfl, trivial⟩ ?_
    refine Hd.toK hK10 ?_
    refine Hd.block ?_
    refine Hd.loopK (ι := Nat) [(2, _), (3, _), (4, _), (7, _), (8, _), (9, _), (10, _)] (fun k => [(11, .slice none 0 0), (12, .int .i64 (k : Int))]) (fun k => pu (k = 0) :: WorldP wb newA :: pt b3 (encRt own) 24 :: L) (fun k => 2 - k) 0 (by repeat (first | exact trivial | refine ⟨rfl, ?_⟩)) (by repeat (first | exact trivial | refine ⟨rfl, ?_⟩)) (Ent.sep (.pure (by first | omega | (simp; done) | (simp; omega) | exact ⟨by simp, by simp⟩) enn)) ?_
    intro k
    try dsimp only
    refine Hd.pure (fun hp0 => ?_)
    try dsimp only at hp0
    refine Hd.seq (fun K11 hK11 => ?_)
    refine Hd.seq (fun K12 hK12 => ?_)
    refine Hd.region ?_
    refine Hd.yv (y_move rfl) ?_
    refine Hd.yv (y_lss rfl rfl) ?_
    refine Hd.nil ?_
    refine Hd.slots [(2, _), (3, _), (4, _), (7, _), (8, _), (9, _), (10, _), (11, _), (12, _), (48, _)] ⟨rfl, rfl, rfl, rfl, rfl, rfl, rfl, rfl, rfl, rfl, trivial⟩ ?_
    refine Hd.toK hK12 ?_
    refine Hd.cond rfl (fun hc1 => ?_) (fun hc1 => ?_)
    ·
      try simp only [decide_eq_true_eq, decide_eq_false_iff_not, Bool.and_eq_true, Bool.or_eq_true, Bool.and_eq_false_iff, Bool.or_eq_false_iff, Bool.not_eq_true', Bool.not_eq_false', Bool.not_eq_true, Bool.not_eq_false, Int.not_lt, Int.not_le, Decidable.not_not, ne_eq] at hc1
      obtain rfl : k = 0 := hp0
      refine Hd.skip ?_
      refine Hd.toK hK11 ?_
      refine Hd.seq (fun K13 hK13 => ?_)
      refine Hd.block ?_
      refine Hd.seq (fun K14 hK14 => ?_)
      refine Hd.region ?_
      refine Hd.yv (y_move rfl) ?_
      refine Hd.callE rfl fk24 (pair_ct _ wb newA 60000 (by decide) (by decide)) (Ent.sep enn) ?_
      intro _
      refine Hd.nil ?_
      refine Hd.slots [(2, _), (3, _), (4, _), (7, _), (8, _), (9, _), (10, _), (11, _), (12, _)] ⟨rfl, rfl, rfl, rfl, rfl, rfl, rfl, rfl, rfl, trivial⟩ ?_
      refine Hd.toK hK14 ?_
      refine Hd.seq (fun K15 hK15 => ?_)
      refine Hd.region ?_
      refine Hd.yv (y_move rfl) ?_
      refine Hd.yv (y_move rfl) ?_
      first | (refine Hd.yv (y_muln rfl rfl (by simp only [InK]; omega)) ?_) | (refine Hd.yv (y_mul rfl rfl) ?_)
      refine Hd.callE rfl fk25 (bnew_ct _ wb (Wk 1) 0 (wk_op (k := 0) (by decide))) (Ent.sep enn) ?_
      intro b
      refine Hd.yv (y_move rfl) ?_
      refine Hd.yv (y_extract rfl rfl) ?_
      refine Hd.yv (y_extract rfl rfl) ?_
      refine Hd.yv (y_assign rfl) ?_
      refine Hd.yv (y_assign rfl) ?_
      refine Hd.nil ?_
      refine Hd.slots [(2, _), (3, _), (4, _), (7, _), (8, _), (9, _), (10, _), (11, _), (12, _), (13, _), (14, _)] ⟨rfl, rfl, rfl, rfl, rfl, rfl, rfl, rfl, rfl, rfl, rfl, trivial⟩ ?_
      refine Hd.toK hK15 ?_
      refine Hd.seq (fun K16 hK16 => ?_)
      refine Hd.region ?_
      refine Hd.yv (y_move rfl) ?_
      refine Hd.callE rfl fk22 (lnew_ct _ b) (Ent.sep enn) ?_
      intro lb
      refine Hd.yv (y_move rfl) ?_
      refine Hd.yv (y_extract rfl rfl) ?_
      refine Hd.yv (y_extract rfl rfl) ?_
      refine Hd.yv (y_assign rfl) ?_
      refine Hd.yv (y_assign rfl) ?_
      refine Hd.nil ?_
      refine Hd.slots [(2, _), (3, _), (4, _), (7, _), (8, _), (9, _), (10, _), (11, _), (12, _), (13, _), (14, _), (15, _), (16, _)] ⟨rfl, rfl, rfl, rfl, rfl, rfl, rfl, rfl, rfl, rfl, rfl, rfl, rfl, trivial⟩ ?_
      refine Hd.toK hK16 ?_
      refine Hd.seq (fun K17 hK17 => ?_)
      refine Hd.seq (fun K18 hK18 => ?_)
      refine Hd.region ?_
      refine Hd.yv (y_move rfl) ?_
      refine Hd.yv (y_neq rfl rfl) ?_
      refine Hd.yv (y_move rfl) ?_
      apply Hd.org 3 67 70 [(2, _), (3, _), (4, _), (7, _), (8, _), (9, _), (10, _), (11, _), (12, _), (13, _), (15, _)] rfl ⟨rfl, rfl, rfl, rfl, rfl, rfl, rfl, rfl, rfl, rfl, rfl, trivial⟩
      · intro hg13_67
        try simp only [decide_eq_true_eq, decide_eq_false_iff_not, Bool.and_eq_true, Bool.or_eq_true, Bool.and_eq_false_iff, Bool.or_eq_false_iff, Bool.not_eq_true', Bool.not_eq_false', Bool.not_eq_true, Bool.not_eq_false, Int.not_lt, Int.not_le, Decidable.not_not, ne_eq] at hg13_67
        simp only [List.take]
        refine Hd.ng rfl rfl rfl ?_
        refine Hd.ng rfl rfl rfl ?_
        first | (refine Hd.yv (y_pickT rfl rfl) ?_) | (refine Hd.yv (y_pickF rfl rfl) ?_) | (refine Hd.yv (y_pickb rfl rfl rfl) ?_) | (refine Hd.yv (y_pick rfl rfl rfl) ?_)
        refine Hd.nil ?_
        exact Hd.mend (by repeat (first | exact trivial | refine ⟨rfl, ?_⟩)) (Ent.sep enn)
      · intro hg13_67
        try simp only [decide_eq_true_eq, decide_eq_false_iff_not, Bool.and_eq_true, Bool.or_eq_true, Bool.and_eq_false_iff, Bool.or_eq_false_iff, Bool.not_eq_true', Bool.not_eq_false', Bool.not_eq_true, Bool.not_eq_false, Int.not_lt, Int.not_le, Decidable.not_not, ne_eq] at hg13_67
        simp only [List.take]
        refine Hd.yg rfl rfl (y_move rfl) ?_
        refine Hd.yg rfl rfl (y_neq rfl rfl) ?_
        first | (refine Hd.yv (y_pickT rfl rfl) ?_) | (refine Hd.yv (y_pickF rfl rfl) ?_) | (refine Hd.yv (y_pickb rfl rfl rfl) ?_) | (refine Hd.yv (y_pick rfl rfl rfl) ?_)
        refine Hd.nil ?_
        exact Hd.mend (by repeat (first | exact trivial | refine ⟨rfl, ?_⟩)) (Ent.sep enn)
      simp only [List.drop]
      refine Hd.nil ?_
      refine Hd.slots [(2, _), (3, _), (4, _), (7, _), (8, _), (9, _), (10, _), (11, _), (12, _), (13, _), (15, _), (70, _)] ⟨rfl, rfl, rfl, rfl, rfl, rfl, rfl, rfl, rfl, rfl, rfl, rfl, trivial⟩ ?_
      refine Hd.toK hK18 ?_
      refine Hd.condF rfl ?_
      refine Hd.skip ?_
      refine Hd.toK hK17 ?_
      refine Hd.seq (fun K19 hK19 => ?_)
      refine Hd.region ?_
      refine Hd.yv (y_move rfl) ?_
      refine Hd.callE rfl fk26 (enable_ct _ b wb (newB 0) (tm_new 0) 0 2 in0) (Ent.sep enn) ?_
      intro _
      refine Hd.nil ?_
      refine Hd.slots [(2, _), (3, _), (4, _), (7, _), (8, _), (9, _), (10, _), (11, _), (12, _), (15, _)] ⟨rfl, rfl, rfl, rfl, rfl, rfl, rfl, rfl, rfl, rfl, trivial⟩ ?_
      refine Hd.toK hK19 ?_
      refine Hd.seq (fun K20 hK20 => ?_)
      refine Hd.region ?_
      refine Hd.yv (y_move rfl) ?_
      first | (refine Hd.yv (y_loadn (us := [_, _, _]) ag24 rfl (Rd.pt pkk (by (first | (intro j v e; rcases j with _|_|_|_|_|_|_|_|_|_|_|_|j <;> first | exact e | exact absurd e (by simp))))) (by exact sz24)) ?_) | (refine Hd.yv (y_loadn (us := [_, _, _]) ag24 rfl (Rd.seg pkk (by (first | (intro j v e; rcases j with _|_|_|_|_|_|_|_|_|_|_|_|j <;> first | exact e | exact absurd e (by simp))))) (by exact sz24)) ?_) | (refine Hd.yv (y_loadRn ag24 rfl (by (first | exact RdS.own pkk)) (by (first | (intro j v e; rcases j with _|_|_|_|_|_|_|_|_|_|_|_|j <;> first | exact e | exact absurd e (by simp)))) (by exact sz24) (by simp)) ?_)
      refine Hd.yv (y_build (vs := []) rfl (by first | exact bd5_75 .. | kernel_rfl)) ?_
      refine Hd.callE rfl fk9 (lsetN_ct _ lb b (rts own r0) 0 in0) (Ent.sep enn) ?_
      intro s
      refine Hd.pure (fun _ => ?_)
      refine Hd.yv (y_assign rfl) ?_
      refine Hd.nil ?_
      refine Hd.slots [(2, _), (3, _), (4, _), (7, _), (8, _), (9, _), (10, _), (11, _), (12, _), (15, _), (17, _)] ⟨rfl, rfl, rfl, rfl, rfl, rfl, rfl, rfl, rfl, rfl, rfl, trivial⟩ ?_
      refine Hd.toK hK20 ?_
      refine Hd.seq (fun K21 hK21 => ?_)
      refine Hd.region ?_
      refine Hd.yv (y_move rfl) ?_
      refine Hd.yv (y_move rfl) ?_
      refine Hd.callE rfl fk19 (join_nil _ lb ⟨b, s, none⟩) (Ent.sep enn) ?_
      intro _
      refine Hd.yv (y_assign rfl) ?_
      refine Hd.nil ?_
      refine Hd.slots [(2, _), (3, _), (4, _), (7, _), (8, _), (9, _), (10, _), (11, _), (12, _), (15, _), (17, _), (18, _)] ⟨rfl, rfl, rfl, rfl, rfl, rfl, rfl, rfl, rfl, rfl, rfl, rfl, trivial⟩ ?_
      refine Hd.toK hK21 ?_
      refine Hd.seq (fun K22 hK22 => ?_)
      refine Hd.seq (fun K23 hK23 => ?_)
      refine Hd.region ?_
      refine Hd.yv (y_move rfl) ?_
      refine Hd.yv (y_neq rfl rfl) ?_
      refine Hd.yv (y_move rfl) ?_
      apply Hd.org 3 82 85 [(2, _), (3, _), (4, _), (7, _), (8, _), (9, _), (10, _), (11, _), (12, _), (15, _), (17, _), (18, _)] rfl ⟨rfl, rfl, rfl, rfl, rfl, rfl, rfl, rfl, rfl, rfl, rfl, rfl, trivial⟩
      · intro hg18_82
        try simp only [decide_eq_true_eq, decide_eq_false_iff_not, Bool.and_eq_true, Bool.or_eq_true, Bool.and_eq_false_iff, Bool.or_eq_false_iff, Bool.not_eq_true', Bool.not_eq_false', Bool.not_eq_true, Bool.not_eq_false, Int.not_lt, Int.not_le, Decidable.not_not, ne_eq] at hg18_82
        simp only [List.take]
        refine Hd.ng rfl rfl rfl ?_
        refine Hd.ng rfl rfl rfl ?_
        first | (refine Hd.yv (y_pickT rfl rfl) ?_) | (refine Hd.yv (y_pickF rfl rfl) ?_) | (refine Hd.yv (y_pickb rfl rfl rfl) ?_) | (refine Hd.yv (y_pick rfl rfl rfl) ?_)
        refine Hd.nil ?_
        exact Hd.mend (by repeat (first | exact trivial | refine ⟨rfl, ?_⟩)) (Ent.sep enn)
      · intro hg18_82
        try simp only [decide_eq_true_eq, decide_eq_false_iff_not, Bool.and_eq_true, Bool.or_eq_true, Bool.and_eq_false_iff, Bool.or_eq_false_iff, Bool.not_eq_true', Bool.not_eq_false', Bool.not_eq_true, Bool.not_eq_false, Int.not_lt, Int.not_le, Decidable.not_not, ne_eq] at hg18_82
        simp only [List.take]
        refine Hd.yg rfl rfl (y_move rfl) ?_
        refine Hd.yg rfl rfl (y_neq rfl rfl) ?_
        first | (refine Hd.yv (y_pickT rfl rfl) ?_) | (refine Hd.yv (y_pickF rfl rfl) ?_) | (refine Hd.yv (y_pickb rfl rfl rfl) ?_) | (refine Hd.yv (y_pick rfl rfl rfl) ?_)
        refine Hd.nil ?_
        exact Hd.mend (by repeat (first | exact trivial | refine ⟨rfl, ?_⟩)) (Ent.sep enn)
      simp only [List.drop]
      refine Hd.yv (y_move rfl) ?_
      apply Hd.org 3 86 89 [(2, _), (3, _), (4, _), (7, _), (8, _), (9, _), (10, _), (11, _), (12, _), (15, _), (17, _)] rfl ⟨rfl, rfl, rfl, rfl, rfl, rfl, rfl, rfl, rfl, rfl, rfl, trivial⟩
      · intro hg18_86
        try simp only [decide_eq_true_eq, decide_eq_false_iff_not, Bool.and_eq_true, Bool.or_eq_true, Bool.and_eq_false_iff, Bool.or_eq_false_iff, Bool.not_eq_true', Bool.not_eq_false', Bool.not_eq_true, Bool.not_eq_false, Int.not_lt, Int.not_le, Decidable.not_not, ne_eq] at hg18_86
        simp only [List.take]
        refine Hd.ng rfl rfl rfl ?_
        refine Hd.ng rfl rfl rfl ?_
        first | (refine Hd.yv (y_pickT rfl rfl) ?_) | (refine Hd.yv (y_pickF rfl rfl) ?_) | (refine Hd.yv (y_pickb rfl rfl rfl) ?_) | (refine Hd.yv (y_pick rfl rfl rfl) ?_)
        refine Hd.nil ?_
        exact Hd.mend (by repeat (first | exact trivial | refine ⟨rfl, ?_⟩)) (Ent.sep enn)
      · intro hg18_86
        try simp only [decide_eq_true_eq, decide_eq_false_iff_not, Bool.and_eq_true, Bool.or_eq_true, Bool.and_eq_false_iff, Bool.or_eq_false_iff, Bool.not_eq_true', Bool.not_eq_false', Bool.not_eq_true, Bool.not_eq_false, Int.not_lt, Int.not_le, Decidable.not_not, ne_eq] at hg18_86
        simp only [List.take]
        refine Hd.yg rfl rfl (y_move rfl) ?_
        refine Hd.yg rfl rfl (y_neq rfl rfl) ?_
        first | (refine Hd.yv (y_pickT rfl rfl) ?_) | (refine Hd.yv (y_pickF rfl rfl) ?_) | (refine Hd.yv (y_pickb rfl rfl rfl) ?_) | (refine Hd.yv (y_pick rfl rfl rfl) ?_)
        refine Hd.nil ?_
        exact Hd.mend (by repeat (first | exact trivial | refine ⟨rfl, ?_⟩)) (Ent.sep enn)
      simp only [List.drop]
      refine Hd.nil ?_
      refine Hd.slots [(2, _), (3, _), (4, _), (7, _), (8, _), (9, _), (10, _), (11, _), (12, _), (15, _), (17, _), (89, _)] ⟨rfl, rfl, rfl, rfl, rfl, rfl, rfl, rfl, rfl, rfl, rfl, rfl, trivial⟩ ?_
      refine Hd.toK hK23 ?_
      refine Hd.cond rfl (fun hc3 => ?_) (fun hc3 => ?_)
      ·
        try simp only [decide_eq_true_eq, decide_eq_false_iff_not, Bool.and_eq_true, Bool.or_eq_true, Bool.and_eq_false_iff, Bool.or_eq_false_iff, Bool.not_eq_true', Bool.not_eq_false', Bool.not_eq_true, Bool.not_eq_false, Int.not_lt, Int.not_le, Decidable.not_not, ne_eq] at hc3
        refine Hd.seq (fun K24 hK24 => ?_)
        refine Hd.region ?_
        refine Hd.yv (y_move rfl) ?_
        refine Hd.yv (y_move rfl) ?_
        refine Hd.yg rfl rfl (y_move rfl) ?_
        first | (refine Hd.yg rfl rfl (y_eqlT rfl rfl) ?_) | (refine Hd.yg rfl rfl (y_eql rfl rfl) ?_)
        refine Hd.yg rfl rfl (y_move rfl) ?_
        apply Hd.org 3 94 97 [(91, _)] rfl ⟨rfl, trivial⟩
        · intro hg19_94
          try simp only [decide_eq_true_eq, decide_eq_false_iff_not, Bool.and_eq_true, Bool.or_eq_true, Bool.and_eq_false_iff, Bool.or_eq_false_iff, Bool.not_eq_true', Bool.not_eq_false', Bool.not_eq_true, Bool.not_eq_false, Int.not_lt, Int.not_le, Decidable.not_not, ne_eq] at hg19_94
          simp only [List.take]
          refine Hd.ng rfl rfl rfl ?_
          refine Hd.ng rfl rfl rfl ?_
          first | (refine Hd.yg rfl rfl (y_pickT rfl rfl) ?_) | (refine Hd.yg rfl rfl (y_pickF rfl rfl) ?_) | (refine Hd.yg rfl rfl (y_pickb rfl rfl rfl) ?_) | (refine Hd.yg rfl rfl (y_pick rfl rfl rfl) ?_)
          refine Hd.nil ?_
          exact Hd.mend (by repeat (first | exact trivial | refine ⟨rfl, ?_⟩)) (Ent.sep enn)
        · intro hg19_94
          try simp only [decide_eq_true_eq, decide_eq_false_iff_not, Bool.and_eq_true, Bool.or_eq_true, Bool.and_eq_false_iff, Bool.or_eq_false_iff, Bool.not_eq_true', Bool.not_eq_false', Bool.not_eq_true, Bool.not_eq_false, Int.not_lt, Int.not_le, Decidable.not_not, ne_eq] at hg19_94
          simp only [List.take]
          refine Hd.yg rfl rfl (y_move rfl) ?_
          first | (refine Hd.yg rfl rfl (y_eqlT rfl rfl) ?_) | (refine Hd.yg rfl rfl (y_eql rfl rfl) ?_)
          first | (refine Hd.yg rfl rfl (y_pickT rfl rfl) ?_) | (refine Hd.yg rfl rfl (y_pickF rfl rfl) ?_) | (refine Hd.yg rfl rfl (y_pickb rfl rfl rfl) ?_) | (refine Hd.yg rfl rfl (y_pick rfl rfl rfl) ?_)
          refine Hd.nil ?_
          exact Hd.mend (by repeat (first | exact trivial | refine ⟨rfl, ?_⟩)) (Ent.sep enn)
        simp only [List.drop]
        first | (refine Hd.yv (y_pickT rfl rfl) ?_) | (refine Hd.yv (y_pickF rfl rfl) ?_) | (refine Hd.yv (y_pickb rfl rfl rfl) ?_) | (refine Hd.yv (y_pick rfl rfl rfl) ?_)
        refine Hd.yv (y_to (v' := .bool true) (y_assign rfl) (by (cases hmB : mayB (rts own r0) <;> rfl))) ?_
        refine Hd.nil ?_
        refine Hd.slots [(6, _)] ⟨rfl, trivial⟩ ?_
        refine Hd.toK hK24 ?_
        refine Hd.ret ?_
        refine Hd.thenRet ?_
        refine Hd.inBret ?_
        refine Hd.thenRet ?_
        refine Hd.thenRet ?_
        refine Hd.inBret ?_
        refine Hd.thenRet ?_
        clear hK1 hK2 hK3 hK4 hK6 hK7 hK8 hK9 hK10 hK11 hK12 hK13 hK14 hK15 hK16 hK17 hK18 hK19 hK20 hK21 hK22 hK23 hK24
        exact Hd.ret1 rfl () (by first | rfl | (simp only [*]; done) | (simp [*]; done)) (Ent.sep enn)
      ·
        try simp only [decide_eq_true_eq, decide_eq_false_iff_not, Bool.and_eq_true, Bool.or_eq_true, Bool.and_eq_false_iff, Bool.or_eq_false_iff, Bool.not_eq_true', Bool.not_eq_false', Bool.not_eq_true, Bool.not_eq_false, Int.not_lt, Int.not_le, Decidable.not_not, ne_eq] at hc3
        exact absurd hc3.2 (by decide)
    ·
      try simp only [decide_eq_true_eq, decide_eq_false_iff_not, Bool.and_eq_true, Bool.or_eq_true, Bool.and_eq_false_iff, Bool.or_eq_false_iff, Bool.not_eq_true', Bool.not_eq_false', Bool.not_eq_true, Bool.not_eq_false, Int.not_lt, Int.not_le, Decidable.not_not, ne_eq] at hc1
      omega
end Lm
end Go.Proofs.YtmpemhbfgbochaaDoor
namespace Go.Proofs.YtmpemhbfgbochaaDoor
set_option linter.unusedSimpArgs false
set_option linter.unusedVariables false
set_option linter.unnecessarySimpa false
open Go.RX Fx
namespace Lm
open Bu Wo
set_option maxRecDepth 8000
set_option maxHeartbeats 2000000 in
theorem lb_bad2 (L : List SP) (hF : Rd L 0 0 flV) (own all : RtA) (hB : mayB (rts all r0) = true) (hO : mayB (rts own r0) = false) (ga : Option Addr) (gc : Nat) (gaps : List Int) (hG : RdS L 1 ga gaps.length (gaps.map fun y => .int .u16 y)) : Ct Tryd.prog 5 #[.agg (encRt own).toArray, .agg (encRt all).toArray, .slice ga gaps.length gc] (L) (fun _ : Unit => .bool true) (fun _ : Unit => L) := by
  refine Ct.of (vs := [.agg (encRt own).toArray, .agg (encRt all).toArray, .slice ga gaps.length gc]) Tryd.func5 rfl rfl [(0, .agg (encRt own).toArray), (1, .agg (encRt all).toArray), (2, .slice ga gaps.length gc)] (by repeat (first | exact trivial | refine ⟨rfl, ?_⟩)) ?_
  intro E
  show Hd E 229 _ _ _ _
  refine Hd.seq (fun K1 hK1 => ?_)
  refine Hd.region ?_
  refine Hd.box rfl rfl (fun b3 => ?_)
  refine Hd.box rfl rfl (fun b4 => ?_)
  refine Hd.yv (y_assign rfl) ?_
  refine Hd.nil ?_
  refine Hd.slots [(2, _), (3, _), (4, _)] ⟨rfl, rfl, rfl, trivial⟩ ?_
  refine Hd.toK hK1 ?_
  refine Hd.seq (fun K2 hK2 => ?_)
  refine Hd.region ?_
  refine Hd.callE rfl fk7 (alive27_ct _ ?hF) (Ent.sep enn) ?_
  case hF => exact Rd.mono hF (Ent.sep enn)
  intro _
  refine Hd.yv (y_assign rfl) ?_
  refine Hd.nil ?_
  refine Hd.slots [(2, _), (3, _), (4, _), (7, _)] ⟨rfl, rfl, rfl, rfl, trivial⟩ ?_
  refine Hd.toK hK2 ?_
  refine Hd.seq (fun K3 hK3 => ?_)
  refine Hd.seq (fun K4 hK4 => ?_)
  refine Hd.region ?_
  refine Hd.yv (y_move rfl) ?_
  refine Hd.yv (y_len Tryd.underlying57 rfl) ?_
  refine Hd.yv (y_gtr rfl rfl) ?_
  refine Hd.yv (y_move rfl) ?_
  apply Hd.org 3 35 38 [(2, _), (3, _), (4, _), (7, _)] rfl ⟨rfl, rfl, rfl, rfl, trivial⟩
  · intro hg2_35
    try simp only [decide_eq_true_eq, decide_eq_false_iff_not, Bool.and_eq_true, Bool.or_eq_true, Bool.and_eq_false_iff, Bool.or_eq_false_iff, Bool.not_eq_true', Bool.not_eq_false', Bool.not_eq_true, Bool.not_eq_false, Int.not_lt, Int.not_le, Decidable.not_not, ne_eq] at hg2_35
    simp only [List.take]
    refine Hd.ng rfl rfl rfl ?_
    refine Hd.ng rfl rfl rfl ?_
    first | (refine Hd.yv (y_pickT rfl rfl) ?_) | (refine Hd.yv (y_pickF rfl rfl) ?_) | (refine Hd.yv (y_pickb rfl rfl rfl) ?_) | (refine Hd.yv (y_pick rfl rfl rfl) ?_)
    refine Hd.nil ?_
    exact Hd.mend (by repeat (first | exact trivial | refine ⟨rfl, ?_⟩)) (Ent.sep enn)
  · intro hg2_35
    try simp only [decide_eq_true_eq, decide_eq_false_iff_not, Bool.and_eq_true, Bool.or_eq_true, Bool.and_eq_false_iff, Bool.or_eq_false_iff, Bool.not_eq_true', Bool.not_eq_false', Bool.not_eq_true, Bool.not_eq_false, Int.not_lt, Int.not_le, Decidable.not_not, ne_eq] at hg2_35
    simp only [List.take]
    refine Hd.yg rfl rfl (y_move rfl) ?_
    refine Hd.yg rfl rfl (y_not rfl) ?_
    first | (refine Hd.yv (y_pickT rfl rfl) ?_) | (refine Hd.yv (y_pickF rfl rfl) ?_) | (refine Hd.yv (y_pickb rfl rfl rfl) ?_) | (refine Hd.yv (y_pick rfl rfl rfl) ?_)
    refine Hd.nil ?_
    exact Hd.mend (by repeat (first | exact trivial | refine ⟨rfl, ?_⟩)) (Ent.sep enn)
  simp only [List.drop]
  refine Hd.nil ?_
  refine Hd.slots [(2, _), (3, _), (4, _), (7, _), (38, _)] ⟨rfl, rfl, rfl, rfl, rfl, trivial⟩ ?_
  refine Hd.toK hK4 ?_
  refine Hd.cond rfl (fun hc0 => ?_) (fun hc0 => ?_)
  ·
    try simp only [decide_eq_true_eq, decide_eq_false_iff_not, Bool.and_eq_true, Bool.or_eq_true, Bool.and_eq_false_iff, Bool.or_eq_false_iff, Bool.not_eq_true', Bool.not_eq_false', Bool.not_eq_true, Bool.not_eq_false, Int.not_lt, Int.not_le, Decidable.not_not, ne_eq] at hc0
    refine Hd.seq (fun K5 hK5 => ?_)
    refine Hd.region ?_
    refine Hd.yv (y_move rfl) ?_
    refine Hd.yv (y_assign rfl) ?_
    refine Hd.nil ?_
    refine Hd.slots [(6, _)] ⟨rfl, trivial⟩ ?_
    refine Hd.toK hK5 ?_
    refine Hd.ret ?_
    refine Hd.thenRet ?_
    clear hK1 hK2 hK3 hK4 hK5
    exact Hd.ret1 rfl () (by first | rfl | (simp only [*]; done) | (simp [*]; done)) (Ent.sep enn)
  ·
    try simp only [decide_eq_true_eq, decide_eq_false_iff_not, Bool.and_eq_true, Bool.or_eq_true, Bool.and_eq_false_iff, Bool.or_eq_false_iff, Bool.not_eq_true', Bool.not_eq_false', Bool.not_eq_true, Bool.not_eq_false, Int.not_lt, Int.not_le, Decidable.not_not, ne_eq] at hc0
    refine Hd.skip ?_
    refine Hd.toK hK3 ?_
    refine Hd.seq (fun K6 hK6 => ?_)
    refine Hd.region ?_
    first | (refine Hd.yv (y_loadn (us := [_, _, _]) ag24 rfl (Rd.pt pkk (by (first | (intro j v e; rcases j with _|_|_|_|_|_|_|_|_|_|_|_|j <;> first | exact e | exact absurd e (by simp))))) (by exact sz24)) ?_) | (refine Hd.yv (y_loadn (us := [_, _, _]) ag24 rfl (Rd.seg pkk (by (first | (intro j v e; rcases j with _|_|_|_|_|_|_|_|_|_|_|_|j <;> first | exact e | exact absurd e (by simp))))) (by exact sz24)) ?_) | (refine Hd.yv (y_loadRn ag24 rfl (by (first | exact RdS.own pkk)) (by (first | (intro j v e; rcases j with _|_|_|_|_|_|_|_|_|_|_|_|j <;> first | exact e | exact absurd e (by simp)))) (by exact sz24) (by simp)) ?_)
    refine Hd.yv (y_build (vs := []) rfl (by first | exact bd5_42 .. | kernel_rfl)) ?_
    refine Hd.callE rfl fk17 (newg_ct _ (rts all r0) hB 0 in0) (Ent.sep enn) ?_
    rintro ⟨gb, gs⟩
    dsimp only
    refine Hd.yv (y_move rfl) ?_
    refine Hd.yv (y_to (v' := .pointer (some ⟨gb, 0, none⟩)) (y_extract rfl rfl) (by rfl)) ?_
    refine Hd.yv (y_to (v' := .int .i64 0) (y_extract rfl rfl) (by rfl)) ?_
    refine Hd.yv (y_assign rfl) ?_
    refine Hd.yv (y_assign rfl) ?_
    refine Hd.nil ?_
    refine Hd.pure (fun hgs => ?_)
    refine Hd.slots [(2, _), (3, _), (4, _), (7, _), (8, _), (9, _)] ⟨rfl, rfl, rfl, rfl, rfl, rfl, trivial⟩ ?_
    refine Hd.toK hK6 ?_
    refine Hd.seq (fun K7 hK7 => ?_)
    refine Hd.region ?_
    refine Hd.callE rfl fk23 (wnew_ct _) (Ent.sep enn) ?_
    intro wb
    refine Hd.yv (y_assign rfl) ?_
    refine Hd.nil ?_
    refine Hd.slots [(2, _), (3, _), (4, _), (7, _), (8, _), (9, _), (10, _)] ⟨rfl, rfl, rfl, rfl, rfl, rfl, rfl, trivial⟩ ?_
    refine Hd.toK hK7 ?_
    refine Hd.seq (fun K8 hK8 => ?_)
    refine Hd.region ?_
    refine Hd.yv (y_assign rfl) ?_
    refine Hd.nil ?_
    refine Hd.slots [(2, _), (3, _), (4, _), (7, _), (8, _), (9, _), (10, _), (11, _)] ⟨rfl, rfl, rfl, rfl, rfl, rfl, rfl, rfl, trivial⟩ ?_
    refine Hd.toK hK8 ?_
    refine Hd.seq (fun K9 hK9 => ?_)
    refine Hd.seq (fun K10 hK10 => ?_)
    refine Hd.region ?_
    refine Hd.yv (y_assign rfl) ?_
    refine Hd.nil ?_
    refine Hd.slots [(2, _), (3, _), (4, _), (7, _), (8, _), (9, _), (10, _), (11, _), (12, _)] ⟨rfl, rfl, rfl, rfl, rfl, rfl, rfl, rfl, rfl, trivial⟩ ?_
    refine Hd.toK hK10 ?_
    refine Hd.block ?_
    refine Hd.loopK (ι := Nat) [(2, _), (3, _), (4, _), (7, _), (8, _), (9, _), (10, _)] (fun k => [(11, .slice none 0 0), (12, .int .i64 (k : Int))]) (fun k => pu (k = 0) :: GrH gb ⟨gs, 0⟩ :: WorldP wb newA :: pt b3 (encRt own) 24 :: L) (fun k => 2 - k) 0 (by repeat (first | exact trivial | refine ⟨rfl, ?_⟩)) (by repeat (first | exact trivial | refine ⟨rfl, ?_⟩)) (Ent.sep (.pure (by first | omega | (simp; done) | (simp; omega) | exact ⟨by simp, by simp⟩) enn)) ?_
    intro k
    try dsimp only
    refine Hd.pure (fun hp0 => ?_)
    try dsimp only at hp0
    refine Hd.seq (fun K11 hK11 => ?_)
    refine Hd.seq (fun K12 hK12 => ?_)
    refine Hd.region ?_
    refine Hd.yv (y_move rfl) ?_
    refine Hd.yv (y_lss rfl rfl) ?_
    refine Hd.nil ?_
    refine Hd.slots [(2, _), (3, _), (4, _), (7, _), (8, _), (9, _), (10, _), (11, _), (12, _), (48, _)] ⟨rfl, rfl, rfl, rfl, rfl, rfl, rfl, rfl, rfl, rfl, trivial⟩ ?_
    refine Hd.toK hK12 ?_
    refine Hd.cond rfl (fun hc1 => ?_) (fun hc1 => ?_)
    ·
      try simp only [decide_eq_true_eq, decide_eq_false_iff_not, Bool.and_eq_true, Bool.or_eq_true, Bool.and_eq_false_iff, Bool.or_eq_false_iff, Bool.not_eq_true', Bool.not_eq_false', Bool.not_eq_true, Bool.not_eq_false, Int.not_lt, Int.not_le, Decidable.not_not, ne_eq] at hc1
      obtain rfl : k = 0 := hp0
      refine Hd.skip ?_
      refine Hd.toK hK11 ?_
      refine Hd.seq (fun K13 hK13 => ?_)
      refine Hd.block ?_
      refine Hd.seq (fun K14 hK14 => ?_)
      refine Hd.region ?_
      refine Hd.yv (y_move rfl) ?_
      refine Hd.callE rfl fk24 (pair_ct _ wb newA 60000 (by decide) (by decide)) (Ent.sep enn) ?_
      intro _
      refine Hd.nil ?_
      refine Hd.slots [(2, _), (3, _), (4, _), (7, _), (8, _), (9, _), (10, _), (11, _), (12, _)] ⟨rfl, rfl, rfl, rfl, rfl, rfl, rfl, rfl, rfl, trivial⟩ ?_
      refine Hd.toK hK14 ?_
      refine Hd.seq (fun K15 hK15 => ?_)
      refine Hd.region ?_
      refine Hd.yv (y_move rfl) ?_
      refine Hd.yv (y_move rfl) ?_
      first | (refine Hd.yv (y_muln rfl rfl (by simp only [InK]; omega)) ?_) | (refine Hd.yv (y_mul rfl rfl) ?_)
      refine Hd.callE rfl fk25 (bnew_ct _ wb (Wk 1) 0 (wk_op (k := 0) (by decide))) (Ent.sep enn) ?_
      intro b
      refine Hd.yv (y_move rfl) ?_
      refine Hd.yv (y_extract rfl rfl) ?_
      refine Hd.yv (y_extract rfl rfl) ?_
      refine Hd.yv (y_assign rfl) ?_
      refine Hd.yv (y_assign rfl) ?_
      refine Hd.nil ?_
      refine Hd.slots [(2, _), (3, _), (4, _), (7, _), (8, _), (9, _), (10, _), (11, _), (12, _), (13, _), (14, _)] ⟨rfl, rfl, rfl, rfl, rfl, rfl, rfl, rfl, rfl, rfl, rfl, trivial⟩ ?_
      refine Hd.toK hK15 ?_
      refine Hd.seq (fun K16 hK16 => ?_)
      refine Hd.region ?_
      refine Hd.yv (y_move rfl) ?_
      refine Hd.callE rfl fk22 (lnew_ct _ b) (Ent.sep enn) ?_
      intro lb
      refine Hd.yv (y_move rfl) ?_
      refine Hd.yv (y_extract rfl rfl) ?_
      refine Hd.yv (y_extract rfl rfl) ?_
      refine Hd.yv (y_assign rfl) ?_
      refine Hd.yv (y_assign rfl) ?_
      refine Hd.nil ?_
      refine Hd.slots [(2, _), (3, _), (4, _), (7, _), (8, _), (9, _), (10, _), (11, _), (12, _), (13, _), (14, _), (15, _), (16, _)] ⟨rfl, rfl, rfl, rfl, rfl, rfl, rfl, rfl, rfl, rfl, rfl, rfl, rfl, trivial⟩ ?_
      refine Hd.toK hK16 ?_
      refine Hd.seq (fun K17 hK17 => ?_)
      refine Hd.seq (fun K18 hK18 => ?_)
      refine Hd.region ?_
      refine Hd.yv (y_move rfl) ?_
      refine Hd.yv (y_neq rfl rfl) ?_
      refine Hd.yv (y_move rfl) ?_
      apply Hd.org 3 67 70 [(2, _), (3, _), (4, _), (7, _), (8, _), (9, _), (10, _), (11, _), (12, _), (13, _), (15, _)] rfl ⟨rfl, rfl, rfl, rfl, rfl, rfl, rfl, rfl, rfl, rfl, rfl, trivial⟩
      · intro hg13_67
        try simp only [decide_eq_true_eq, decide_eq_false_iff_not, Bool.and_eq_true, Bool.or_eq_true, Bool.and_eq_false_iff, Bool.or_eq_false_iff, Bool.not_eq_true', Bool.not_eq_false', Bool.not_eq_true, Bool.not_eq_false, Int.not_lt, Int.not_le, Decidable.not_not, ne_eq] at hg13_67
        simp only [List.take]
        refine Hd.ng rfl rfl rfl ?_
        refine Hd.ng rfl rfl rfl ?_
        first | (refine Hd.yv (y_pickT rfl rfl) ?_) | (refine Hd.yv (y_pickF rfl rfl) ?_) | (refine Hd.yv (y_pickb rfl rfl rfl) ?_) | (refine Hd.yv (y_pick rfl rfl rfl) ?_)
        refine Hd.nil ?_
        exact Hd.mend (by repeat (first | exact trivial | refine ⟨rfl, ?_⟩)) (Ent.sep enn)
      · intro hg13_67
        try simp only [decide_eq_true_eq, decide_eq_false_iff_not, Bool.and_eq_true, Bool.or_eq_true, Bool.and_eq_false_iff, Bool.or_eq_false_iff, Bool.not_eq_true', Bool.not_eq_false', Bool.not_eq_true, Bool.not_eq_false, Int.not_lt, Int.not_le, Decidable.not_not, ne_eq] at hg13_67
        simp only [List.take]
        refine Hd.yg rfl rfl (y_move rfl) ?_
        refine Hd.yg rfl rfl (y_neq rfl rfl) ?_
        first | (refine Hd.yv (y_pickT rfl rfl) ?_) | (refine Hd.yv (y_pickF rfl rfl) ?_) | (refine Hd.yv (y_pickb rfl rfl rfl) ?_) | (refine Hd.yv (y_pick rfl rfl rfl) ?_)
        refine Hd.nil ?_
        exact Hd.mend (by repeat (first | exact trivial | refine ⟨rfl, ?_⟩)) (Ent.sep enn)
      simp only [List.drop]
      refine Hd.nil ?_
      refine Hd.slots [(2, _), (3, _), (4, _), (7, _), (8, _), (9, _), (10, _), (11, _), (12, _), (13, _), (15, _), (70, _)] ⟨rfl, rfl, rfl, rfl, rfl, rfl, rfl, rfl, rfl, rfl, rfl, rfl, trivial⟩ ?_
      refine Hd.toK hK18 ?_
      refine Hd.condF rfl ?_
      refine Hd.skip ?_
      refine Hd.toK hK17 ?_
      refine Hd.seq (fun K19 hK19 => ?_)
      refine Hd.region ?_
      refine Hd.yv (y_move rfl) ?_
      refine Hd.callE rfl fk26 (enable_ct _ b wb (newB 0) (tm_new 0) 0 2 in0) (Ent.sep enn) ?_
      intro _
      refine Hd.nil ?_
      refine Hd.slots [(2, _), (3, _), (4, _), (7, _), (8, _), (9, _), (10, _), (11, _), (12, _), (15, _)] ⟨rfl, rfl, rfl, rfl, rfl, rfl, rfl, rfl, rfl, rfl, trivial⟩ ?_
      refine Hd.toK hK19 ?_
      refine Hd.seq (fun K20 hK20 => ?_)
      refine Hd.region ?_
      refine Hd.yv (y_move rfl) ?_
      first | (refine Hd.yv (y_loadn (us := [_, _, _]) ag24 rfl (Rd.pt pkk (by (first | (intro j v e; rcases j with _|_|_|_|_|_|_|_|_|_|_|_|j <;> first | exact e | exact absurd e (by simp))))) (by exact sz24)) ?_) | (refine Hd.yv (y_loadn (us := [_, _, _]) ag24 rfl (Rd.seg pkk (by (first | (intro j v e; rcases j with _|_|_|_|_|_|_|_|_|_|_|_|j <;> first | exact e | exact absurd e (by simp))))) (by exact sz24)) ?_) | (refine Hd.yv (y_loadRn ag24 rfl (by (first | exact RdS.own pkk)) (by (first | (intro j v e; rcases j with _|_|_|_|_|_|_|_|_|_|_|_|j <;> first | exact e | exact absurd e (by simp)))) (by exact sz24) (by simp)) ?_)
      refine Hd.yv (y_build (vs := []) rfl (by first | exact bd5_75 .. | kernel_rfl)) ?_
      refine Hd.callE rfl fk9 (lset_bad _ lb ⟨b, noS, none⟩ (rts own r0) hO 0) (Ent.sep enn) ?_
      intro _
      refine Hd.yv (y_assign rfl) ?_
      refine Hd.nil ?_
      refine Hd.slots [(2, _), (3, _), (4, _), (7, _), (8, _), (9, _), (10, _), (11, _), (12, _), (15, _), (17, _)] ⟨rfl, rfl, rfl, rfl, rfl, rfl, rfl, rfl, rfl, rfl, rfl, trivial⟩ ?_
      refine Hd.toK hK20 ?_
      refine Hd.seq (fun K21 hK21 => ?_)
      refine Hd.region ?_
      refine Hd.yv (y_move rfl) ?_
      refine Hd.yv (y_move rfl) ?_
      refine Hd.callE rfl fk19 (join_ct _ lb gb ⟨b, noS, none⟩ rfl ⟨gs, 0⟩ (by show (0 : Int) ≤ 0; omega) (by show (0 : Int) ≤ 1000; omega)) (Ent.sep enn) ?_
      intro _
      refine Hd.yv (y_assign rfl) ?_
      refine Hd.nil ?_
      refine Hd.slots [(2, _), (3, _), (4, _), (7, _), (8, _), (9, _), (10, _), (11, _), (12, _), (15, _), (17, _), (18, _)] ⟨rfl, rfl, rfl, rfl, rfl, rfl, rfl, rfl, rfl, rfl, rfl, rfl, trivial⟩ ?_
      refine Hd.toK hK21 ?_
      refine Hd.seq (fun K22 hK22 => ?_)
      refine Hd.seq (fun K23 hK23 => ?_)
      refine Hd.region ?_
      refine Hd.yv (y_move rfl) ?_
      refine Hd.yv (y_neq rfl rfl) ?_
      refine Hd.yv (y_move rfl) ?_
      apply Hd.org 3 82 85 [(2, _), (3, _), (4, _), (7, _), (8, _), (9, _), (10, _), (11, _), (12, _), (15, _), (17, _), (18, _)] rfl ⟨rfl, rfl, rfl, rfl, rfl, rfl, rfl, rfl, rfl, rfl, rfl, rfl, trivial⟩
      · intro hg18_82
        try simp only [decide_eq_true_eq, decide_eq_false_iff_not, Bool.and_eq_true, Bool.or_eq_true, Bool.and_eq_false_iff, Bool.or_eq_false_iff, Bool.not_eq_true', Bool.not_eq_false', Bool.not_eq_true, Bool.not_eq_false, Int.not_lt, Int.not_le, Decidable.not_not, ne_eq] at hg18_82
        simp only [List.take]
        refine Hd.ng rfl rfl rfl ?_
        refine Hd.ng rfl rfl rfl ?_
        first | (refine Hd.yv (y_pickT rfl rfl) ?_) | (refine Hd.yv (y_pickF rfl rfl) ?_) | (refine Hd.yv (y_pickb rfl rfl rfl) ?_) | (refine Hd.yv (y_pick rfl rfl rfl) ?_)
        refine Hd.nil ?_
        exact Hd.mend (by repeat (first | exact trivial | refine ⟨rfl, ?_⟩)) (Ent.sep enn)
      · intro hg18_82
        try simp only [decide_eq_true_eq, decide_eq_false_iff_not, Bool.and_eq_true, Bool.or_eq_true, Bool.and_eq_false_iff, Bool.or_eq_false_iff, Bool.not_eq_true', Bool.not_eq_false', Bool.not_eq_true, Bool.not_eq_false, Int.not_lt, Int.not_le, Decidable.not_not, ne_eq] at hg18_82
        simp only [List.take]
        refine Hd.yg rfl rfl (y_move rfl) ?_
        refine Hd.yg rfl rfl (y_neq rfl rfl) ?_
        first | (refine Hd.yv (y_pickT rfl rfl) ?_) | (refine Hd.yv (y_pickF rfl rfl) ?_) | (refine Hd.yv (y_pickb rfl rfl rfl) ?_) | (refine Hd.yv (y_pick rfl rfl rfl) ?_)
        refine Hd.nil ?_
        exact Hd.mend (by repeat (first | exact trivial | refine ⟨rfl, ?_⟩)) (Ent.sep enn)
      simp only [List.drop]
      refine Hd.yv (y_move rfl) ?_
      apply Hd.org 3 86 89 [(2, _), (3, _), (4, _), (7, _), (8, _), (9, _), (10, _), (11, _), (12, _), (15, _), (17, _)] rfl ⟨rfl, rfl, rfl, rfl, rfl, rfl, rfl, rfl, rfl, rfl, rfl, trivial⟩
      · intro hg18_86
        try simp only [decide_eq_true_eq, decide_eq_false_iff_not, Bool.and_eq_true, Bool.or_eq_true, Bool.and_eq_false_iff, Bool.or_eq_false_iff, Bool.not_eq_true', Bool.not_eq_false', Bool.not_eq_true, Bool.not_eq_false, Int.not_lt, Int.not_le, Decidable.not_not, ne_eq] at hg18_86
        simp only [List.take]
        refine Hd.ng rfl rfl rfl ?_
        refine Hd.ng rfl rfl rfl ?_
        first | (refine Hd.yv (y_pickT rfl rfl) ?_) | (refine Hd.yv (y_pickF rfl rfl) ?_) | (refine Hd.yv (y_pickb rfl rfl rfl) ?_) | (refine Hd.yv (y_pick rfl rfl rfl) ?_)
        refine Hd.nil ?_
        exact Hd.mend (by repeat (first | exact trivial | refine ⟨rfl, ?_⟩)) (Ent.sep enn)
      · intro hg18_86
        try simp only [decide_eq_true_eq, decide_eq_false_iff_not, Bool.and_eq_true, Bool.or_eq_true, Bool.and_eq_false_iff, Bool.or_eq_false_iff, Bool.not_eq_true', Bool.not_eq_false', Bool.not_eq_true, Bool.not_eq_false, Int.not_lt, Int.not_le, Decidable.not_not, ne_eq] at hg18_86
        simp only [List.take]
        refine Hd.yg rfl rfl (y_move rfl) ?_
        refine Hd.yg rfl rfl (y_neq rfl rfl) ?_
        first | (refine Hd.yv (y_pickT rfl rfl) ?_) | (refine Hd.yv (y_pickF rfl rfl) ?_) | (refine Hd.yv (y_pickb rfl rfl rfl) ?_) | (refine Hd.yv (y_pick rfl rfl rfl) ?_)
        refine Hd.nil ?_
        exact Hd.mend (by repeat (first | exact trivial | refine ⟨rfl, ?_⟩)) (Ent.sep enn)
      simp only [List.drop]
      refine Hd.nil ?_
      refine Hd.slots [(2, _), (3, _), (4, _), (7, _), (8, _), (9, _), (10, _), (11, _), (12, _), (15, _), (17, _), (89, _)] ⟨rfl, rfl, rfl, rfl, rfl, rfl, rfl, rfl, rfl, rfl, rfl, rfl, trivial⟩ ?_
      refine Hd.toK hK23 ?_
      refine Hd.cond rfl (fun hc3 => ?_) (fun hc3 => ?_)
      ·
        try simp only [decide_eq_true_eq, decide_eq_false_iff_not, Bool.and_eq_true, Bool.or_eq_true, Bool.and_eq_false_iff, Bool.or_eq_false_iff, Bool.not_eq_true', Bool.not_eq_false', Bool.not_eq_true, Bool.not_eq_false, Int.not_lt, Int.not_le, Decidable.not_not, ne_eq] at hc3
        refine Hd.seq (fun K24 hK24 => ?_)
        refine Hd.region ?_
        refine Hd.yv (y_move rfl) ?_
        refine Hd.yv (y_move rfl) ?_
        refine Hd.yg rfl rfl (y_move rfl) ?_
        first | (refine Hd.yg rfl rfl (y_eqlT rfl rfl) ?_) | (refine Hd.yg rfl rfl (y_eql rfl rfl) ?_)
        refine Hd.yg rfl rfl (y_move rfl) ?_
        apply Hd.org 3 94 97 [(91, _)] rfl ⟨rfl, trivial⟩
        · intro hg19_94
          try simp only [decide_eq_true_eq, decide_eq_false_iff_not, Bool.and_eq_true, Bool.or_eq_true, Bool.and_eq_false_iff, Bool.or_eq_false_iff, Bool.not_eq_true', Bool.not_eq_false', Bool.not_eq_true, Bool.not_eq_false, Int.not_lt, Int.not_le, Decidable.not_not, ne_eq] at hg19_94
          simp only [List.take]
          refine Hd.ng rfl rfl rfl ?_
          refine Hd.ng rfl rfl rfl ?_
          first | (refine Hd.yg rfl rfl (y_pickT rfl rfl) ?_) | (refine Hd.yg rfl rfl (y_pickF rfl rfl) ?_) | (refine Hd.yg rfl rfl (y_pickb rfl rfl rfl) ?_) | (refine Hd.yg rfl rfl (y_pick rfl rfl rfl) ?_)
          refine Hd.nil ?_
          exact Hd.mend (by repeat (first | exact trivial | refine ⟨rfl, ?_⟩)) (Ent.sep enn)
        · intro hg19_94
          try simp only [decide_eq_true_eq, decide_eq_false_iff_not, Bool.and_eq_true, Bool.or_eq_true, Bool.and_eq_false_iff, Bool.or_eq_false_iff, Bool.not_eq_true', Bool.not_eq_false', Bool.not_eq_true, Bool.not_eq_false, Int.not_lt, Int.not_le, Decidable.not_not, ne_eq] at hg19_94
          simp only [List.take]
          refine Hd.yg rfl rfl (y_move rfl) ?_
          first | (refine Hd.yg rfl rfl (y_eqlT rfl rfl) ?_) | (refine Hd.yg rfl rfl (y_eql rfl rfl) ?_)
          first | (refine Hd.yg rfl rfl (y_pickT rfl rfl) ?_) | (refine Hd.yg rfl rfl (y_pickF rfl rfl) ?_) | (refine Hd.yg rfl rfl (y_pickb rfl rfl rfl) ?_) | (refine Hd.yg rfl rfl (y_pick rfl rfl rfl) ?_)
          refine Hd.nil ?_
          exact Hd.mend (by repeat (first | exact trivial | refine ⟨rfl, ?_⟩)) (Ent.sep enn)
        simp only [List.drop]
        first | (refine Hd.yv (y_pickT rfl rfl) ?_) | (refine Hd.yv (y_pickF rfl rfl) ?_) | (refine Hd.yv (y_pickb rfl rfl rfl) ?_) | (refine Hd.yv (y_pick rfl rfl rfl) ?_)
        refine Hd.yv (y_to (v' := .bool true) (y_assign rfl) (by rfl)) ?_
        refine Hd.nil ?_
        refine Hd.slots [(6, _)] ⟨rfl, trivial⟩ ?_
        refine Hd.toK hK24 ?_
        refine Hd.ret ?_
        refine Hd.thenRet ?_
        refine Hd.inBret ?_
        refine Hd.thenRet ?_
        refine Hd.thenRet ?_
        refine Hd.inBret ?_
        refine Hd.thenRet ?_
        clear hK1 hK2 hK3 hK4 hK6 hK7 hK8 hK9 hK10 hK11 hK12 hK13 hK14 hK15 hK16 hK17 hK18 hK19 hK20 hK21 hK22 hK23 hK24
        exact Hd.ret1 rfl () (by first | rfl | (simp only [*]; done) | (simp [*]; done)) (Ent.sep enn)
      ·
        try simp only [decide_eq_true_eq, decide_eq_false_iff_not, Bool.and_eq_true, Bool.or_eq_true, Bool.and_eq_false_iff, Bool.or_eq_false_iff, Bool.not_eq_true', Bool.not_eq_false', Bool.not_eq_true, Bool.not_eq_false, Int.not_lt, Int.not_le, Decidable.not_not, ne_eq] at hc3
        exact absurd hc3 (by simp)
    ·
      try simp only [decide_eq_true_eq, decide_eq_false_iff_not, Bool.and_eq_true, Bool.or_eq_true, Bool.and_eq_false_iff, Bool.or_eq_false_iff, Bool.not_eq_true', Bool.not_eq_false', Bool.not_eq_true, Bool.not_eq_false, Int.not_lt, Int.not_le, Decidable.not_not, ne_eq] at hc1
      omega
end Lm
end Go.Proofs.YtmpemhbfgbochaaDoor
