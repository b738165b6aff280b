/- The error has its number; the examples of the chapter; what is refused, and of none: the law LimitNames answers true, the table of flags being what the program's text lays. No other condition. -/
import Derived.Test.YtmpemhbfgbochaaDoorCards
import Derived.Test.YtmpemhbfgbochaaDoorTie
import Derived.OpenShut
import Derived.Deep.DeepHandedRow
import Derived.Lib.LaidTab
import Derived.Lib.SmallJoins
import Derived.Test.YtmpemhbfgbochaaDoorZLimitNamesI
namespace Go.Proofs.YtmpemhbfgbochaaDoor
set_option linter.unusedSimpArgs false
set_option linter.unusedVariables false
set_option linter.unnecessarySimpa false
open Go.RX Fx
namespace Bu
open Wo
set_option maxRecDepth 8000
def SmS (s s' : SdA) (c : List UInt8) : Prop := s'.c = c ∧ s'.on = s.on ∧ s'.ended = s.ended ∧ s'.low = s.low ∧ s'.high = s.high ∧ s'.after = s.after
theorem SmS.same {s : SdA} {c : List UInt8} (h : c = s.c) : SmS s s c := ⟨h.symm, rfl, rfl, rfl, rfl, rfl⟩
end Bu
end Go.Proofs.YtmpemhbfgbochaaDoor
namespace Go.Proofs.YtmpemhbfgbochaaDoor
set_option linter.unusedSimpArgs false
set_option linter.unusedVariables false
set_option linter.unnecessarySimpa false
open Go.RX Fx
namespace Lm
open Bu Wo
set_option maxRecDepth 8000
theorem lg_ng {lb : Nat} {l : LmA} (hg : l.g = none) (G : GrA) {x : Nat → BkA} (y : Nat → BkA) {L : List SP} : ∀ h, sep (LmH lb l :: SlB (l.b 0) (x 0) :: SlB (l.b 1) (x 1) :: L) h → sep (LgL lb l G x y L) h := fun h s => by
  unfold LgL
  rw [hg]
  exact Ent.sep (.pick pkk (.pure trivial (.pick pkk (.pick pkk (.pure trivial (.pure trivial enn)))))) h s
theorem lg_gr {lb gb : Nat} {l : LmA} (hg : l.g = some gb) {G : GrA} {x y : Nat → BkA} {L : List SP} : ∀ h, sep (LmH lb l :: GrH gb G :: SlB (l.b 0) (x 0) :: SlB (l.b 1) (x 1) :: SlB (G.b 0) (y 0) :: SlB (G.b 1) (y 1) :: L) h → sep (LgL lb l G x y L) h := fun h s => by
  unfold LgL
  rw [hg]
  exact s
theorem lg_grb {lb gb : Nat} {l : LmA} (hg : l.g = some gb) {G : GrA} {x y : Nat → BkA} {L : List SP} : ∀ h, sep (LgL lb l G x y L) h → sep (LmH lb l :: GrH gb G :: SlB (l.b 0) (x 0) :: SlB (l.b 1) (x 1) :: SlB (G.b 0) (y 0) :: SlB (G.b 1) (y 1) :: L) h := fun h s => by
  unfold LgL at s
  rw [hg] at s
  exact s
def lvB (a b : Bool) (X Y : BkA) : Int := if nV X Y ((if a = true then [0] else []) ++ (if b = true then [1] else [])) < 1 then 0 else nV X Y ((if a = true then [0] else []) ++ (if b = true then [1] else []))
theorem lvS_b (s gs : Option Nat) (X Y : BkA) : lvS s gs X Y = lvB s.isSome gs.isSome X Y := rfl
def lwB (v0 v1 m : Int) : Int := if v1 = 0 then bits .andNot .i64 (if v0 = 0 then bits .andNot .i64 m 2 else m) 4 else if v0 = 0 then bits .andNot .i64 m 2 else m
theorem lwK_b (l : LmA) (G : GrA) (x y : Nat → BkA) (m : Int) : lwK l G x y m 2 = lwB (lvA l G x y 0) (lvA l G x y 1) m := by
  rw [lwK_succ, lwK_succ]; rfl
theorem whK_2 (l : LmA) (G : GrA) (x y : Nat → BkA) (m now : Int) : whK l G x y m now 2 = if bits .and .i64 m 4 = 0 ∨ 0 < lvA l G x y 1 then (if bits .and .i64 m 2 = 0 ∨ 0 < lvA l G x y 0 then NV else min NV (mV (x 0) (y 0) now (itS (l.b 0) (gsl l.g G 0)))) else min (if bits .and .i64 m 2 = 0 ∨ 0 < lvA l G x y 0 then NV else min NV (mV (x 0) (y 0) now (itS (l.b 0) (gsl l.g G 0)))) (mV (x 1) (y 1) now (itS (l.b 1) (gsl l.g G 1))) := by
  rw [whK_succ, whK_succ]; rfl
theorem gv_con {s : Nat → Option Nat} {x : Nat → BkA} (h : ∀ k, BkOk (x k)) {now : Int} (hn : InK .u64 now) {r : Nat → RtA} (hr : mayB r = true) (hd : ∀ k, 2 ≤ k → rz (r k) = true) : ∀ k, BkOk (gvX s x now r k) := fun k => by
  by_cases hk : k < 2
  · exact gv_ok h hn hr hk
  · unfold gvX; rw [if_pos (hd k (by omega))]; exact h k
abbrev rts (a b : RtA) : Nat → RtA := fun k => if k = 0 then a else if k = 1 then b else ⟨0, 0, 0⟩
theorem rts_far (a b : RtA) : ∀ k, 2 ≤ k → rz (rts a b k) = true := fun k hk => by
  unfold rts
  rw [if_neg (by omega), if_neg (by omega)]; rfl
abbrev r0 : RtA := ⟨0, 0, 0⟩
abbrev frX : BfA := enB (newB 0) 0 2
abbrev frW (n m : Nat) : WA := (writeR (pairA n) 1 (List.replicate m 0)).2
set_option maxHeartbeats 2000000 in
theorem few_ct (L : List SP) (n m : Nat) (h1 : 1 ≤ n) (h2 : n ≤ 65536) (hm : m ≤ 60000) : Ct Tryd.prog 8 #[.int .i64 (n : Int), .int .i64 (m : Int)] (L) (fun q_ : Nat × Nat × Nat => .tuple #[.pointer (some ⟨q_.1, 0, none⟩), .pointer (some ⟨q_.2.2, 0, none⟩), .bool true]) (fun q_ : Nat × Nat × Nat => LmH q_.2.2 ⟨q_.2.1, noS, none⟩ :: BufP q_.2.1 q_.1 frX :: WorldP q_.1 (frW n m) :: L) := by
  refine Ct.of (vs := [.int .i64 (n : Int), .int .i64 (m : Int)]) Tryd.func8 rfl rfl [(0, .int .i64 (n : Int)), (1, .int .i64 (m : Int))] (by repeat (first | exact trivial | refine ⟨rfl, ?_⟩)) ?_
  intro E
  show Hd E 40 _ _ _ _
  refine Hd.seq (fun K1 hK1 => ?_)
  refine Hd.region ?_
  refine Hd.yv (y_assign rfl) ?_
  refine Hd.yv (y_assign rfl) ?_
  refine Hd.yv (y_assign rfl) ?_
  refine Hd.nil ?_
  refine Hd.slots [(0, _), (1, _)] ⟨rfl, rfl, trivial⟩ ?_
  refine Hd.toK hK1 ?_
  refine Hd.seq (fun K2 hK2 => ?_)
  refine Hd.region ?_
  refine Hd.callE rfl fk23 (wnew_ct _) (Ent.sep enn) ?_
  intro wb
  refine Hd.yv (y_assign rfl) ?_
  refine Hd.nil ?_
  refine Hd.slots [(0, _), (1, _), (7, _)] ⟨rfl, rfl, rfl, trivial⟩ ?_
  refine Hd.toK hK2 ?_
  refine Hd.seq (fun K3 hK3 => ?_)
  refine Hd.region ?_
  refine Hd.yv (y_move rfl) ?_
  refine Hd.yv (y_move rfl) ?_
  refine Hd.callE rfl fk24 (pair_ct _ wb newA n h1 h2) (Ent.sep enn) ?_
  intro _
  refine Hd.nil ?_
  refine Hd.slots [(1, _), (7, _)] ⟨rfl, rfl, trivial⟩ ?_
  refine Hd.toK hK3 ?_
  refine Hd.seq (fun K4 hK4 => ?_)
  refine Hd.region ?_
  refine Hd.yv (y_move rfl) ?_
  refine Hd.callE rfl fk25 (bnew_ct _ wb (pairA n) 0 (op_pr (pr_new n))) (Ent.sep enn) ?_
  intro b
  refine Hd.yv (y_move rfl) ?_
  refine Hd.yv (y_extract rfl rfl) ?_
  refine Hd.yv (y_extract rfl rfl) ?_
  refine Hd.yv (y_assign rfl) ?_
  refine Hd.yv (y_assign rfl) ?_
  refine Hd.nil ?_
  refine Hd.slots [(1, _), (7, _), (8, _), (9, _)] ⟨rfl, rfl, rfl, rfl, trivial⟩ ?_
  refine Hd.toK hK4 ?_
  refine Hd.seq (fun K5 hK5 => ?_)
  refine Hd.region ?_
  refine Hd.yv (y_move rfl) ?_
  refine Hd.callE rfl fk26 (enable_ct _ b wb (newB 0) (tm_new 0) 0 2 (by simp [InK])) (Ent.sep enn) ?_
  intro _
  refine Hd.nil ?_
  refine Hd.slots [(1, _), (7, _), (8, _), (9, _)] ⟨rfl, rfl, rfl, rfl, trivial⟩ ?_
  refine Hd.toK hK5 ?_
  refine Hd.seq (fun K6 hK6 => ?_)
  refine Hd.region ?_
  refine Hd.yv (y_move rfl) ?_
  refine Hd.yv (y_move rfl) ?_
  refine Hd.mkslice Tryd.underlying35 ty5 zr5 rfl rfl rfl rfl (by omega) (by omega) (by simp only [maxLen]; omega) (fun b25 cs25 hcs25 => ?_)
  have hcs : cs25 = bsl (List.replicate m 0) := by rw [hcs25]; exact noughts_cells m
  subst hcs
  refine Hd.ptOwn (b := b25) (m := m) pkk (by simp) (by simp only [maxLen]; omega) ?_
  refine Hd.callE rfl fk10 (wwrite_ct _ wb (pairA n) 1 (some ⟨b25, 0, none⟩) m m (List.replicate m 0) (by simp) ?hD (by omega) (Nat.le_refl _)) (Ent.sep enn) ?_
  case hD => exact RdS.own pkk
  intro _
  refine Hd.nil ?_
  refine Hd.slots [(7, _), (8, _), (9, _)] ⟨rfl, rfl, rfl, trivial⟩ ?_
  refine Hd.toK hK6 ?_
  refine Hd.seq (fun K7 hK7 => ?_)
  refine Hd.region ?_
  refine Hd.yv (y_move rfl) ?_
  refine Hd.callE rfl fk22 (lnew_ct _ b) (Ent.sep enn) ?_
  intro lb
  refine Hd.yv (y_move rfl) ?_
  refine Hd.yv (y_extract rfl rfl) ?_
  refine Hd.yv (y_extract rfl rfl) ?_
  refine Hd.yv (y_assign rfl) ?_
  refine Hd.yv (y_assign rfl) ?_
  refine Hd.nil ?_
  refine Hd.slots [(7, _), (9, _), (10, _), (11, _)] ⟨rfl, rfl, rfl, rfl, trivial⟩ ?_
  refine Hd.toK hK7 ?_
  refine Hd.seq (fun K8 hK8 => ?_)
  refine Hd.region ?_
  refine Hd.yv (y_move rfl) ?_
  refine Hd.yv (y_move rfl) ?_
  refine Hd.yv (y_move rfl) ?_
  first | (refine Hd.yv (y_to (y_eqlT rfl rfl) (congrArg Value.bool (decide_eq_true (rfl)))) ?_) | (refine Hd.yv (y_to (y_eql rfl rfl) (congrArg Value.bool (decide_eq_true (rfl)))) ?_)
  refine Hd.yv (y_move rfl) ?_
  refine Hd.yg rfl rfl (y_move rfl) ?_
  first | (refine Hd.yg rfl rfl (y_to (y_eqlT rfl rfl) (congrArg Value.bool (decide_eq_true (rfl)))) ?_) | (refine Hd.yg rfl rfl (y_to (y_eql rfl rfl) (congrArg Value.bool (decide_eq_true (rfl)))) ?_)
  first | (refine Hd.yv (y_pickT rfl rfl) ?_) | (refine Hd.yv (y_pickF rfl rfl) ?_) | (refine Hd.yv (y_pickb rfl rfl rfl) ?_) | (refine Hd.yv (y_pick rfl rfl rfl) ?_)
  refine Hd.yv (y_assign rfl) ?_
  refine Hd.yv (y_assign rfl) ?_
  refine Hd.yv (y_assign rfl) ?_
  refine Hd.nil ?_
  refine Hd.slots [(4, _), (5, _), (6, _)] ⟨rfl, rfl, rfl, trivial⟩ ?_
  refine Hd.toK hK8 ?_
  refine Hd.ret ?_
  clear hK1 hK2 hK3 hK4 hK5 hK6 hK7 hK8
  exact Hd.ret3 rfl (wb, b, lb) rfl rfl rfl rfl (Ent.sep enn)
abbrev exR : Nat → RtA := rts ⟨10, 5, 20⟩ r0
abbrev exX : Nat → BkA := gvX noS dmX 0 exR
abbrev exW : WA := frW 100 50
abbrev exS1 : StA := stepS frX exW 0 2 20 4096
abbrev exX1 : Nat → BkA := stX 0 exS1.t exX
abbrev exX2 : Nat → BkA := cmA 0 exX1
abbrev exX3 : Nat → BkA := cmA 0 exX2
abbrev exS4 : StA := stepS exS1.x exS1.w 4 0 0 4096
abbrev exX4 : Nat → BkA := stX 4 exS4.t exX3
abbrev exS5 : StA := stepS exS4.x exS4.w 5 2 10 4096
abbrev exX5 : Nat → BkA := stX 5 exS5.t exX4
theorem ex_may : mayB exR = true := by decide +kernel
theorem ex_k0 : ∀ k, BkOk (exX k) := gv_con (fun _ => dum_ok) (by simp [InK]) ex_may (rts_far _ _)
theorem stX_ok {x : Nat → BkA} (h : ∀ k, BkOk (x k)) {now : Int} (hn : InK .u64 now) (t : ToA) : ∀ k, BkOk (stX now t x k) := fun k => tak_ok (h k) hn _
theorem cmA_ok {x : Nat → BkA} (h : ∀ k, BkOk (x k)) {now : Int} (hn : InK .u64 now) : ∀ k, BkOk (cmA now x k) := fun k => come_ok (h k) hn
theorem ex_t1 : encT exS1.t = [.bool true, .bool false, .int .i64 0, .int .i64 0, .int .i64 20, .int .i64 0] := by rfl
theorem ex_t4 : encT exS4.t = [.bool false, .bool false, .int .i64 0, .int .i64 0, .int .i64 0, .int .i64 0] := by rfl
theorem ex_t5 : encT exS5.t = [.bool true, .bool false, .int .i64 0, .int .i64 0, .int .i64 10, .int .i64 0] := by rfl
abbrev exY1 : Nat → BkA := stX 0 exS1.t dmX
abbrev exY2 : Nat → BkA := cmA 0 exY1
abbrev exY3 : Nat → BkA := cmA 0 exY2
abbrev exY4 : Nat → BkA := stX 4 exS4.t exY3
abbrev exY5 : Nat → BkA := stX 5 exS5.t exY4
theorem in0 : InK .u64 0 := by simp [InK]
theorem in4 : InK .u64 4 := by simp [InK]
theorem in5 : InK .u64 5 := by simp [InK]
theorem ex_c0 : ConOk exX dmX := ⟨ex_k0, fun _ => dum_ok⟩
theorem ex_c1 : ConOk exX1 exY1 := ⟨stX_ok ex_c0.x in0 _, stX_ok ex_c0.y in0 _⟩
theorem ex_c2 : ConOk exX2 exY2 := ⟨cmA_ok ex_c1.x in0, cmA_ok ex_c1.y in0⟩
theorem ex_c3 : ConOk exX3 exY3 := ⟨cmA_ok ex_c2.x in0, cmA_ok ex_c2.y in0⟩
theorem ex_c4 : ConOk exX4 exY4 := ⟨stX_ok ex_c3.x in4 _, stX_ok ex_c3.y in4 _⟩
theorem ex_c5 : ConOk exX5 exY5 := ⟨stX_ok ex_c4.x in5 _, stX_ok ex_c4.y in5 _⟩
theorem ex_b0 : BOk frX := bok_en (bok_new 0) in0 2
theorem ex_b1 : BOk exS1.x := bok_step ex_b0 in0 _ _ _ _
theorem ex_b4 : BOk exS4.x := bok_step ex_b1 in4 _ _ _ _
theorem ex_l1 : lvB true false (cmA 0 exX 0) (cmA 0 dmX 0) = 20 := by decide +kernel
theorem ex_m1 : lvB false false (cmA 0 exX 1) (cmA 0 dmX 1) = 4096 := by decide +kernel
theorem ex_f1 : bits .and .i64 2 (lwB 20 4096 (wantsA frX)) = 2 := by decide +kernel
theorem ex_w2 : lwB (lvB true false (exX2 0) (exY2 0)) (lvB false false (exX2 1) (exY2 1)) (wantsA exS1.x) = 0 := by decide +kernel
theorem ex_l3 : lvB true false (exX3 0) (exY3 0) = 0 := by decide +kernel
theorem ex_m3 : lvB false false (exX3 1) (exY3 1) = 4096 := by decide +kernel
theorem ex_v3 : mV (exX3 0) (exY3 0) 0 [0] = 5 := by decide +kernel
theorem ex_b3 : bits .and .i64 (wantsA exS1.x) 4 = 0 ∧ ¬ bits .and .i64 (wantsA exS1.x) 2 = 0 := by decide +kernel
theorem ex_l4 : lvB true false (cmA 4 exX3 0) (cmA 4 exY3 0) = 0 := by decide +kernel
theorem ex_m4 : lvB false false (cmA 4 exX3 1) (cmA 4 exY3 1) = 4096 := by decide +kernel
theorem ex_f4 : bits .and .i64 2 (lwB 0 4096 (wantsA exS1.x)) = 0 := by decide +kernel
theorem ex_l5 : lvB true false (cmA 5 exX4 0) (cmA 5 exY4 0) = 10 := by decide +kernel
theorem ex_m5 : lvB false false (cmA 5 exX4 1) (cmA 5 exY4 1) = 4096 := by decide +kernel
theorem ex_f5 : bits .and .i64 2 (lwB 10 4096 (wantsA exS4.x)) = 2 := by decide +kernel
theorem ex_l6 : lvB true false (cmA 5 exX5 0) (cmA 5 exY5 0) = 0 := by decide +kernel
theorem ex_m6 : lvB false false (cmA 5 exX5 1) (cmA 5 exY5 1) = 4096 := by decide +kernel
theorem ls_of {l : LmA} {G : GrA} {x y : Nat → BkA} {X : BfA} {w : WA} {now flags v0 v1 f : Int} (h0 : lvA l G (cmA now x) (cmA now y) 0 = v0) (h1 : lvA l G (cmA now x) (cmA now y) 1 = v1) (hf : bits .and .i64 flags (lwB v0 v1 (wantsA X)) = f) : lsS l G x y X w now flags = stepS X w now f v0 v1 := by
  unfold lsS
  rw [lwK_b, h0, h1, hf]
theorem lv0_b {b : Nat} {s : Nat → Option Nat} {g : Option Nat} {G : GrA} {c d : Bool} {k : Nat} (h : (s k).isSome = c) (hg : (gsl g G k).isSome = d) (x y : Nat → BkA) : lvA ⟨b, s, g⟩ G x y k = lvB c d (x k) (y k) := by
  unfold lvA; rw [lvS_b, h, hg]
abbrev G0 : GrA := ⟨noS, 0⟩
set_option maxHeartbeats 2000000 in
theorem alive27_ct (L : List SP) (hF : Rd L 0 0 flV) : Ct Tryd.prog 7 #[] (L) (fun _ : Unit => .bool true) (fun _ : Unit => L) := by
  refine Ct.of (vs := []) Tryd.func7 rfl rfl [] (by repeat (first | exact trivial | refine ⟨rfl, ?_⟩)) ?_
  intro E
  show Hd E 72 _ _ _ _
  refine Hd.seq (fun K1 hK1 => ?_)
  refine Hd.region ?_
  refine Hd.yv (y_assign rfl) ?_
  refine Hd.nil ?_
  refine Hd.slots [] trivial ?_
  refine Hd.toK hK1 ?_
  refine Hd.seq (fun K2 hK2 => ?_)
  refine Hd.region ?_
  refine Hd.callE rfl fk8 (few_ct _ 100 50 (by decide) (by decide) (by decide)) (Ent.sep enn) ?_
  rintro ⟨wb, b, lb⟩
  dsimp only
  refine Hd.yv (y_move rfl) ?_
  refine Hd.yv (y_extract rfl rfl) ?_
  refine Hd.yv (y_extract rfl rfl) ?_
  refine Hd.yv (y_extract rfl rfl) ?_
  refine Hd.yv (y_assign rfl) ?_
  refine Hd.yv (y_assign rfl) ?_
  refine Hd.yv (y_assign rfl) ?_
  refine Hd.nil ?_
  refine Hd.slots [(2, _), (3, _)] ⟨rfl, rfl, trivial⟩ ?_
  refine Hd.toK hK2 ?_
  refine Hd.seq (fun K3 hK3 => ?_)
  refine Hd.heap (LmH lb ⟨b, noS, none⟩ :: SlB (noS 0) (dmX 0) :: SlB (noS 1) (dmX 1) :: BufP b wb frX :: WorldP wb exW :: L) (fun q s => by rw [slB_noS]; exact Ent.sep (.pick pkk (.pure trivial (.pure trivial enn))) q s) ?_
  refine Hd.region ?_
  refine Hd.yv (y_move rfl) ?_
  refine Hd.yv (y_build (vs := [(0, _), (1, _), (2, _)]) rfl (by first | exact bd7_18 .. | kernel_rfl)) ?_
  refine Hd.yv (y_build (vs := []) rfl (by first | exact bd7_19 .. | kernel_rfl)) ?_
  refine Hd.callE rfl fk9 (lset_ct _ lb ⟨b, noS, none⟩ dmX (fun _ => dum_ok) exR ex_may 0 in0) (Ent.sep enn) ?_
  intro s
  refine Hd.yv (y_assign rfl) ?_
  refine Hd.nil ?_
  refine Hd.pure (fun hs => ?_)
  have h0 : (s 0).isSome = true := hs 0 (by decide)
  have h1 : (s 1).isSome = false := hs 1 (by decide)
  have hl0 : ∀ x y : Nat → BkA, lvA ⟨b, s, none⟩ G0 x y 0 = lvB true false (x 0) (y 0) := lv0_b h0 rfl
  have hl1 : ∀ x y : Nat → BkA, lvA ⟨b, s, none⟩ G0 x y 1 = lvB false false (x 1) (y 1) := lv0_b h1 rfl
  have hit : itS (s 0) (gsl none G0 0) = [0] := by unfold itS; rw [h0]; rfl
  refine Hd.heap (LgL lb ⟨b, s, none⟩ G0 exX dmX (BufP b wb frX :: WorldP wb exW :: L)) (fun q t => lg_ng rfl G0 dmX q (Ent.sep enn q t)) ?_
  refine Hd.slots [(2, _), (3, _), (4, _)] ⟨rfl, rfl, rfl, trivial⟩ ?_
  refine Hd.toK hK3 ?_
  refine Hd.seq (fun K4 hK4 => ?_)
  refine Hd.region ?_
  refine Hd.yv (y_move rfl) ?_
  refine Hd.callE rfl fk11 (lstep_ct _ lb wb ⟨b, s, none⟩ G0 exX dmX ex_c0 frX ex_b0 exW 0 2 in0 ?hF exS1 (ls_of ((hl0 _ _).trans ex_l1) ((hl1 _ _).trans ex_m1) ex_f1) (by rw [show exS1.t.i = 20 by rfl]; simp [InK]) (by rw [show exS1.t.o = 0 by rfl]; simp [InK])) (Ent.sep enn) ?_
  case hF => exact Rd.mono hF (Ent.sep enn)
  intro _
  rw [ex_t1]
  refine Hd.alloc zr37 (fun b5 => ?_)
  refine Hd.storeA (us := [.bool true, .bool false, .int .i64 0, .int .i64 0, .int .i64 20, .int .i64 0]) sz37 rfl rfl rfl (by simp [Value.oneCell']) pkk (by exact rfl) ?_
  refine Hd.nil ?_
  refine Hd.slots [(2, _), (3, _), (4, _), (5, _)] ⟨rfl, rfl, rfl, rfl, trivial⟩ ?_
  refine Hd.toK hK4 ?_
  refine Hd.seq (fun K5 hK5 => ?_)
  refine Hd.region ?_
  refine Hd.yv (y_move rfl) ?_
  refine Hd.callE rfl fk16 (lwants_ct _ lb wb ⟨b, s, none⟩ G0 exX1 exY1 ex_c1 exS1.x 0 in0 ?hF) (Ent.sep enn) ?_
  case hF => exact Rd.mono hF (Ent.sep enn)
  intro _
  rw [lwK_b, hl0, hl1, ex_w2]
  refine Hd.yv (y_assign rfl) ?_
  refine Hd.nil ?_
  refine Hd.slots [(2, _), (3, _), (4, _), (5, _), (6, _)] ⟨rfl, rfl, rfl, rfl, rfl, trivial⟩ ?_
  refine Hd.toK hK5 ?_
  refine Hd.seq (fun K6 hK6 => ?_)
  refine Hd.region ?_
  refine Hd.yv (y_move rfl) ?_
  refine Hd.callE rfl fk15 (lwhen_ct _ lb wb ⟨b, s, none⟩ G0 exX2 exY2 ex_c2 exS1.x 0 in0 ?hF) (Ent.sep enn) ?_
  case hF => exact Rd.mono hF (Ent.sep enn)
  intro _
  rw [whK_2, hl0, hl1, ex_l3, ex_m3, hit, ex_v3, if_pos (.inr (by decide)), if_neg (fun h => h.elim ex_b3.2 (by decide))]
  refine Hd.yv (y_assign rfl) ?_
  refine Hd.nil ?_
  refine Hd.slots [(2, _), (3, _), (4, _), (5, _), (6, _), (7, _)] ⟨rfl, rfl, rfl, rfl, rfl, rfl, trivial⟩ ?_
  refine Hd.toK hK6 ?_
  refine Hd.seq (fun K7 hK7 => ?_)
  refine Hd.region ?_
  refine Hd.yv (y_move rfl) ?_
  refine Hd.callE rfl fk11 (lstep_ct _ lb wb ⟨b, s, none⟩ G0 exX3 exY3 ex_c3 exS1.x ex_b1 exS1.w 4 2 in4 ?hF exS4 (ls_of ((hl0 _ _).trans ex_l4) ((hl1 _ _).trans ex_m4) ex_f4) (by rw [show exS4.t.i = 0 by rfl]; simp [InK]) (by rw [show exS4.t.o = 0 by rfl]; simp [InK])) (Ent.sep enn) ?_
  case hF => exact Rd.mono hF (Ent.sep enn)
  intro _
  rw [ex_t4]
  refine Hd.alloc zr37 (fun b8 => ?_)
  refine Hd.storeA (us := [.bool false, .bool false, .int .i64 0, .int .i64 0, .int .i64 0, .int .i64 0]) sz37 rfl rfl rfl (by simp [Value.oneCell']) pkk (by exact rfl) ?_
  refine Hd.nil ?_
  refine Hd.slots [(2, _), (3, _), (4, _), (5, _), (6, _), (7, _), (8, _)] ⟨rfl, rfl, rfl, rfl, rfl, rfl, rfl, trivial⟩ ?_
  refine Hd.toK hK7 ?_
  refine Hd.seq (fun K8 hK8 => ?_)
  refine Hd.region ?_
  refine Hd.yv (y_move rfl) ?_
  refine Hd.callE rfl fk11 (lstep_ct _ lb wb ⟨b, s, none⟩ G0 exX4 exY4 ex_c4 exS4.x ex_b4 exS4.w 5 2 in5 ?hF exS5 (ls_of ((hl0 _ _).trans ex_l5) ((hl1 _ _).trans ex_m5) ex_f5) (by rw [show exS5.t.i = 10 by rfl]; simp [InK]) (by rw [show exS5.t.o = 0 by rfl]; simp [InK])) (Ent.sep enn) ?_
  case hF => exact Rd.mono hF (Ent.sep enn)
  intro _
  rw [ex_t5]
  refine Hd.alloc zr37 (fun b9 => ?_)
  refine Hd.storeA (us := [.bool true, .bool false, .int .i64 0, .int .i64 0, .int .i64 10, .int .i64 0]) sz37 rfl rfl rfl (by simp [Value.oneCell']) pkk (by exact rfl) ?_
  refine Hd.nil ?_
  refine Hd.slots [(2, _), (3, _), (4, _), (5, _), (6, _), (7, _), (8, _), (9, _)] ⟨rfl, rfl, rfl, rfl, rfl, rfl, rfl, rfl, trivial⟩ ?_
  refine Hd.toK hK8 ?_
  refine Hd.seq (fun K9 hK9 => ?_)
  refine Hd.region ?_
  refine Hd.yv (y_move rfl) ?_
  refine Hd.callE rfl fk14 (leaves_ct _ lb ⟨b, s, none⟩ G0 exX5 exY5 ex_c5 5 in5) (Ent.sep enn) ?_
  intro _
  rw [show lvS (LmA.b ⟨b, s, none⟩ 0) (gsl (LmA.g ⟨b, s, none⟩) G0 0) (cmA 5 exX5 0) (cmA 5 exY5 0) = 0 from (hl0 (cmA 5 exX5) (cmA 5 exY5)).trans ex_l6, show lvS (LmA.b ⟨b, s, none⟩ 1) (gsl (LmA.g ⟨b, s, none⟩) G0 1) (cmA 5 exX5 1) (cmA 5 exY5 1) = 4096 from (hl1 (cmA 5 exX5) (cmA 5 exY5)).trans ex_m6]
  refine Hd.yv (y_move rfl) ?_
  refine Hd.yv (y_extract rfl rfl) ?_
  refine Hd.yv (y_extract rfl rfl) ?_
  refine Hd.yv (y_assign rfl) ?_
  refine Hd.yv (y_assign rfl) ?_
  refine Hd.nil ?_
  refine Hd.slots [(3, _), (4, _), (5, _), (6, _), (7, _), (8, _), (9, _), (10, _), (11, _)] ⟨rfl, rfl, rfl, rfl, rfl, rfl, rfl, rfl, rfl, trivial⟩ ?_
  refine Hd.toK hK9 ?_
  refine Hd.seq (fun K10 hK10 => ?_)
  refine Hd.region ?_
  refine Hd.yv (y_move rfl) ?_
  refine Hd.yv (y_move rfl) ?_
  refine Hd.yg rfl rfl (y_move rfl) ?_
  first | (refine Hd.yg rfl rfl (y_to (y_eqlT rfl rfl) (congrArg Value.bool (decide_eq_true ((by rfl))))) ?_) | (refine Hd.yg rfl rfl (y_to (y_eql rfl rfl) (congrArg Value.bool (decide_eq_true ((by rfl))))) ?_)
  first | (refine Hd.yv (y_pickT rfl rfl) ?_) | (refine Hd.yv (y_pickF rfl rfl) ?_) | (refine Hd.yv (y_pickb rfl rfl rfl) ?_) | (refine Hd.yv (y_pick rfl rfl rfl) ?_)
  refine Hd.yv (y_move rfl) ?_
  refine Hd.yg rfl rfl (y_loadn (us := [.bool true, .bool false, .int .i64 0, .int .i64 0, .int .i64 20, .int .i64 0]) ag37 rfl (Rd.pt (b := b5) pkk (fun j v e => by rw [Nat.zero_add]; exact e)) (by exact sz37)) ?_
  refine Hd.yg rfl rfl (y_build (vs := [(0, _), (4, _)]) rfl (by first | exact bd7_43 .. | kernel_rfl)) ?_
  refine Hd.yg rfl rfl (y_to (v' := .bool true) (y_eql_agg rfl rfl eqt37 rfl ⟨rfl, rfl⟩) (by rfl)) ?_
  first | (refine Hd.yv (y_pickT rfl rfl) ?_) | (refine Hd.yv (y_pickF rfl rfl) ?_) | (refine Hd.yv (y_pickb rfl rfl rfl) ?_) | (refine Hd.yv (y_pick rfl rfl rfl) ?_)
  refine Hd.yv (y_move rfl) ?_
  refine Hd.yg rfl rfl (y_move rfl) ?_
  first | (refine Hd.yg rfl rfl (y_to (y_eqlT rfl rfl) (congrArg Value.bool (decide_eq_true ((by rfl))))) ?_) | (refine Hd.yg rfl rfl (y_to (y_eql rfl rfl) (congrArg Value.bool (decide_eq_true ((by rfl))))) ?_)
  first | (refine Hd.yv (y_pickT rfl rfl) ?_) | (refine Hd.yv (y_pickF rfl rfl) ?_) | (refine Hd.yv (y_pickb rfl rfl rfl) ?_) | (refine Hd.yv (y_pick rfl rfl rfl) ?_)
  refine Hd.yv (y_move rfl) ?_
  refine Hd.yg rfl rfl (y_move rfl) ?_
  first | (refine Hd.yg rfl rfl (y_to (y_eqlT rfl rfl) (congrArg Value.bool (decide_eq_true ((by decide))))) ?_) | (refine Hd.yg rfl rfl (y_to (y_eql rfl rfl) (congrArg Value.bool (decide_eq_true ((by decide))))) ?_)
  first | (refine Hd.yv (y_pickT rfl rfl) ?_) | (refine Hd.yv (y_pickF rfl rfl) ?_) | (refine Hd.yv (y_pickb rfl rfl rfl) ?_) | (refine Hd.yv (y_pick rfl rfl rfl) ?_)
  refine Hd.yv (y_move rfl) ?_
  refine Hd.yg rfl rfl (y_loadn (us := [.bool false, .bool false, .int .i64 0, .int .i64 0, .int .i64 0, .int .i64 0]) ag37 rfl (Rd.pt (b := b8) pkk (fun j v e => by rw [Nat.zero_add]; exact e)) (by exact sz37)) ?_
  refine Hd.yg rfl rfl (y_build (vs := []) rfl (by first | exact bd7_56 .. | kernel_rfl)) ?_
  refine Hd.yg rfl rfl (y_to (v' := .bool true) (y_eql_agg rfl rfl eqt37 rfl ⟨rfl, rfl⟩) (by rfl)) ?_
  first | (refine Hd.yv (y_pickT rfl rfl) ?_) | (refine Hd.yv (y_pickF rfl rfl) ?_) | (refine Hd.yv (y_pickb rfl rfl rfl) ?_) | (refine Hd.yv (y_pick rfl rfl rfl) ?_)
  refine Hd.yv (y_move rfl) ?_
  refine Hd.yg rfl rfl (y_loadn (us := [.bool true, .bool false, .int .i64 0, .int .i64 0, .int .i64 10, .int .i64 0]) ag37 rfl (Rd.pt (b := b9) pkk (fun j v e => by rw [Nat.zero_add]; exact e)) (by exact sz37)) ?_
  refine Hd.yg rfl rfl (y_build (vs := [(0, _), (4, _)]) rfl (by first | exact bd7_61 .. | kernel_rfl)) ?_
  refine Hd.yg rfl rfl (y_to (v' := .bool true) (y_eql_agg rfl rfl eqt37 rfl ⟨rfl, rfl⟩) (by rfl)) ?_
  first | (refine Hd.yv (y_pickT rfl rfl) ?_) | (refine Hd.yv (y_pickF rfl rfl) ?_) | (refine Hd.yv (y_pickb rfl rfl rfl) ?_) | (refine Hd.yv (y_pick rfl rfl rfl) ?_)
  refine Hd.yv (y_move rfl) ?_
  refine Hd.yg rfl rfl (y_move rfl) ?_
  first | (refine Hd.yg rfl rfl (y_to (y_eqlT rfl rfl) (congrArg Value.bool (decide_eq_true ((by rfl))))) ?_) | (refine Hd.yg rfl rfl (y_to (y_eql rfl rfl) (congrArg Value.bool (decide_eq_true ((by rfl))))) ?_)
  first | (refine Hd.yv (y_pickT rfl rfl) ?_) | (refine Hd.yv (y_pickF rfl rfl) ?_) | (refine Hd.yv (y_pickb rfl rfl rfl) ?_) | (refine Hd.yv (y_pick rfl rfl rfl) ?_)
  refine Hd.yv (y_move rfl) ?_
  refine Hd.yg rfl rfl (y_move rfl) ?_
  first | (refine Hd.yg rfl rfl (y_to (y_eqlT rfl rfl) (congrArg Value.bool (decide_eq_true ((by rfl))))) ?_) | (refine Hd.yg rfl rfl (y_to (y_eql rfl rfl) (congrArg Value.bool (decide_eq_true ((by rfl))))) ?_)
  first | (refine Hd.yv (y_pickT rfl rfl) ?_) | (refine Hd.yv (y_pickF rfl rfl) ?_) | (refine Hd.yv (y_pickb rfl rfl rfl) ?_) | (refine Hd.yv (y_pick rfl rfl rfl) ?_)
  refine Hd.yv (y_assign rfl) ?_
  refine Hd.nil ?_
  refine Hd.slots [(0, _)] ⟨rfl, trivial⟩ ?_
  refine Hd.toK hK10 ?_
  refine Hd.ret ?_
  clear hK1 hK2 hK3 hK4 hK5 hK6 hK7 hK8 hK9 hK10
  exact Hd.ret1 rfl () (by first | rfl | (simp only [*]; done) | (simp [*]; done)) (Ent.sep enn)
end Lm
end Go.Proofs.YtmpemhbfgbochaaDoor
namespace Go.Proofs.YtmpemhbfgbochaaDoor
set_option linter.unusedSimpArgs false
set_option linter.unusedVariables false
set_option linter.unnecessarySimpa false
open Go.RX Fx
namespace Lm
open Bu Wo
set_option maxRecDepth 8000
abbrev badR : RtA := ⟨5, 0, 0⟩
abbrev nmR : Nat → RtA := rts ⟨1, 1, 3⟩ r0
theorem nm_b1 : mayB (rts badR r0) = false := by decide +kernel
theorem nm_b2 : mayB (rts r0 badR) = false := by decide +kernel
theorem nm_b3 : mayB nmR = true := by decide +kernel
abbrev nmY : Nat → BkA := ngX 0 nmR
abbrev nmS1 : StA := stepS frX exW 0 2 3 4096
abbrev nmX1 : Nat → BkA := stX 0 nmS1.t dmX
abbrev nmY1 : Nat → BkA := stX 0 nmS1.t nmY
abbrev nmY2 : Nat → BkA := cmA 0 nmY1
abbrev nmS2 : StA := stepS nmS1.x nmS1.w 0 2 4096 4096
abbrev nmX2 : Nat → BkA := stX 0 nmS2.t nmX1
theorem nm_c0 : ConOk dmX nmY := ⟨fun _ => dum_ok, gv_con (fun _ => dum_ok) in0 nm_b3 (rts_far _ _)⟩
theorem nm_c1 : ConOk nmX1 nmY1 := ⟨stX_ok nm_c0.x in0 _, stX_ok nm_c0.y in0 _⟩
theorem nm_c2 : ConOk nmX2 dmX := ⟨stX_ok nm_c1.x in0 _, fun _ => dum_ok⟩
theorem nm_c3 : ConOk nmX1 dmX := ⟨nm_c1.x, fun _ => dum_ok⟩
theorem nm_o1 : BOk nmS1.x := bok_step ex_b0 in0 _ _ _ _
theorem nm_l1 : lvB false true (cmA 0 dmX 0) (cmA 0 nmY 0) = 3 := by decide +kernel
theorem nm_m1 : lvB false false (cmA 0 dmX 1) (cmA 0 nmY 1) = 4096 := by decide +kernel
theorem nm_f1 : bits .and .i64 2 (lwB 3 4096 (wantsA frX)) = 2 := by decide +kernel
theorem nm_l2 : lvB false false (cmA 0 nmX1 0) (cmA 0 dmX 0) = 4096 := by decide +kernel
theorem nm_m2 : lvB false false (cmA 0 nmX1 1) (cmA 0 dmX 1) = 4096 := by decide +kernel
theorem nm_f2 : bits .and .i64 2 (lwB 4096 4096 (wantsA nmS1.x)) = 2 := by decide +kernel
theorem nm_t1 : nmS1.t.i = 3 := by rfl
theorem nm_u1 : nmS1.t.o = 0 := by rfl
theorem nm_t2 : nmS2.t.i = 47 := by rfl
theorem nm_u2 : nmS2.t.o = 0 := by rfl
theorem nm_h : (nmY2 0).have_ = 0 := by decide +kernel
theorem nm_l3 : lvB false false (cmA 0 nmX2 0) (cmA 0 (stX 0 nmS2.t dmX) 0) = 4096 := by decide +kernel
theorem nm_b4 : bits .and .i64 (wantsA nmS2.x) 4 = 0 := by decide +kernel
theorem nm_c4 : ConOk nmX2 (stX 0 nmS2.t dmX) := ⟨nm_c2.x, stX_ok nm_c2.y in0 _⟩
theorem sl_no {x : Nat → BkA} {L : List SP} : ∀ h, sep L h → sep (SlB (noS 0) (x 0) :: SlB (noS 1) (x 1) :: L) h := fun h s => by
  rw [slB_noS, slB_noS]; exact Ent.sep (.pure trivial (.pure trivial .same)) h s
set_option maxHeartbeats 2000000 in
theorem lnames_ct (L : List SP) (hF : Rd L 0 0 flV) : Ct Tryd.prog 4 #[] (L) (fun _ : Unit => .bool true) (fun _ : Unit => L) := by
  refine Ct.of (vs := []) Tryd.func4 rfl rfl [] (by repeat (first | exact trivial | refine ⟨rfl, ?_⟩)) ?_
  intro E
  show Hd E 169 _ _ _ _
  refine Hd.seq (fun K1 hK1 => ?_)
  refine Hd.region ?_
  refine Hd.yv (y_assign rfl) ?_
  refine Hd.nil ?_
  refine Hd.slots [] trivial ?_
  refine Hd.toK hK1 ?_
  refine Hd.seq (fun K2 hK2 => ?_)
  refine Hd.region ?_
  refine Hd.callE rfl fk8 (few_ct _ 100 50 (by decide) (by decide) (by decide)) (Ent.sep enn) ?_
  rintro ⟨wb, b, lb⟩
  dsimp only
  refine Hd.yv (y_move rfl) ?_
  refine Hd.yv (y_extract rfl rfl) ?_
  refine Hd.yv (y_extract rfl rfl) ?_
  refine Hd.yv (y_extract rfl rfl) ?_
  refine Hd.yv (y_assign rfl) ?_
  refine Hd.yv (y_assign rfl) ?_
  refine Hd.yv (y_assign rfl) ?_
  refine Hd.nil ?_
  refine Hd.slots [(2, _)] ⟨rfl, trivial⟩ ?_
  refine Hd.toK hK2 ?_
  refine Hd.seq (fun K3 hK3 => ?_)
  refine Hd.region ?_
  refine Hd.yv (y_build (vs := [(0, _)]) rfl (by first | exact bd4_30 .. | kernel_rfl)) ?_
  refine Hd.alloc zr24 (fun b4 => ?_)
  first | (refine Hd.storeA (us := [_, _, _]) sz24 rfl rfl rfl (by simp [Value.oneCell']) pkk rfl ?_) | (refine Hd.store (us := [_, _, _]) sz24 rfl rfl rfl (by simp [Value.oneCell']) pkk (by simp) ?_)
  try simp only [List.set_cons_zero, List.set_cons_succ]
  refine Hd.nil ?_
  refine Hd.slots [(2, _), (4, _)] ⟨rfl, rfl, trivial⟩ ?_
  refine Hd.toK hK3 ?_
  refine Hd.seq (fun K4 hK4 => ?_)
  refine Hd.region ?_
  refine Hd.yv (y_move rfl) ?_
  first | (refine Hd.yv (y_loadn (us := [_, _, _]) ag24 rfl (Rd.pt pkk (by (first | (intro j v e; rcases j with _|_|_|_|_|_|_|_|_|_|_|_|j <;> first | exact e | exact absurd e (by simp))))) (by exact sz24)) ?_) | (refine Hd.yv (y_loadn (us := [_, _, _]) ag24 rfl (Rd.seg pkk (by (first | (intro j v e; rcases j with _|_|_|_|_|_|_|_|_|_|_|_|j <;> first | exact e | exact absurd e (by simp))))) (by exact sz24)) ?_) | (refine Hd.yv (y_loadRn ag24 rfl (by (first | exact RdS.own pkk)) (by (first | (intro j v e; rcases j with _|_|_|_|_|_|_|_|_|_|_|_|j <;> first | exact e | exact absurd e (by simp)))) (by exact sz24) (by simp)) ?_)
  refine Hd.yv (y_build (vs := []) rfl (by first | exact bd4_33 .. | kernel_rfl)) ?_
  refine Hd.callE rfl fk9 (lset_bad _ lb ⟨b, noS, none⟩ (rts badR r0) nm_b1 0) (Ent.sep enn) ?_
  intro _
  refine Hd.yv (y_assign rfl) ?_
  refine Hd.nil ?_
  refine Hd.slots [(2, _), (4, _), (5, _)] ⟨rfl, rfl, rfl, trivial⟩ ?_
  refine Hd.toK hK4 ?_
  refine Hd.seq (fun K5 hK5 => ?_)
  refine Hd.region ?_
  refine Hd.yv (y_build (vs := []) rfl (by first | exact bd4_36 .. | kernel_rfl)) ?_
  first | (refine Hd.yv (y_loadn (us := [_, _, _]) ag24 rfl (Rd.pt pkk (by (first | (intro j v e; rcases j with _|_|_|_|_|_|_|_|_|_|_|_|j <;> first | exact e | exact absurd e (by simp))))) (by exact sz24)) ?_) | (refine Hd.yv (y_loadn (us := [_, _, _]) ag24 rfl (Rd.seg pkk (by (first | (intro j v e; rcases j with _|_|_|_|_|_|_|_|_|_|_|_|j <;> first | exact e | exact absurd e (by simp))))) (by exact sz24)) ?_) | (refine Hd.yv (y_loadRn ag24 rfl (by (first | exact RdS.own pkk)) (by (first | (intro j v e; rcases j with _|_|_|_|_|_|_|_|_|_|_|_|j <;> first | exact e | exact absurd e (by simp)))) (by exact sz24) (by simp)) ?_)
  refine Hd.callE rfl fk17 (newg_bad _ (rts r0 badR) nm_b2 0) (Ent.sep enn) ?_
  intro _
  refine Hd.yv (y_move rfl) ?_
  refine Hd.yv (y_extract rfl rfl) ?_
  refine Hd.yv (y_extract rfl rfl) ?_
  refine Hd.yv (y_assign rfl) ?_
  refine Hd.yv (y_assign rfl) ?_
  refine Hd.nil ?_
  refine Hd.slots [(2, _), (4, _), (5, _), (7, _)] ⟨rfl, rfl, rfl, rfl, trivial⟩ ?_
  refine Hd.toK hK5 ?_
  refine Hd.seq (fun K6 hK6 => ?_)
  refine Hd.region ?_
  refine Hd.yv (y_build (vs := [(0, _), (1, _), (2, _)]) rfl (by first | exact bd4_42 .. | kernel_rfl)) ?_
  refine Hd.yv (y_build (vs := []) rfl (by first | exact bd4_43 .. | kernel_rfl)) ?_
  refine Hd.callE rfl fk17 (newg_ct _ nmR nm_b3 0 in0) (Ent.sep enn) ?_
  rintro ⟨gb, s⟩
  dsimp only
  refine Hd.yv (y_move rfl) ?_
  refine Hd.yv (y_extract rfl rfl) ?_
  refine Hd.yv (y_extract rfl rfl) ?_
  refine Hd.yv (y_assign rfl) ?_
  refine Hd.yv (y_assign rfl) ?_
  refine Hd.nil ?_
  refine Hd.pure (fun hs => ?_)
  have h0 : (s 0).isSome = true := hs 0 (by decide)
  have h1 : (s 1).isSome = false := hs 1 (by decide)
  have hl0 : ∀ (n : Int) (x y : Nat → BkA), lvA ⟨b, noS, some gb⟩ ⟨s, n⟩ x y 0 = lvB false true (x 0) (y 0) := fun n => lv0_b rfl h0
  have hl1 : ∀ (n : Int) (x y : Nat → BkA), lvA ⟨b, noS, some gb⟩ ⟨s, n⟩ x y 1 = lvB false false (x 1) (y 1) := fun n => lv0_b rfl h1
  have hn0 : ∀ x y : Nat → BkA, lvA ⟨b, noS, none⟩ G0 x y 0 = lvB false false (x 0) (y 0) := lv0_b rfl rfl
  have hn1 : ∀ x y : Nat → BkA, lvA ⟨b, noS, none⟩ G0 x y 1 = lvB false false (x 1) (y 1) := lv0_b rfl rfl
  have hh0 : hvS (s 0) (cmA 0 nmY1 0) = 0 := by unfold hvS; rw [h0, if_pos rfl]; exact nm_h
  have hh1 : hvS (s 1) (cmA 0 nmY1 1) = 0 := by unfold hvS; rw [h1, if_neg (by simp)]
  refine Hd.slots [(2, _), (4, _), (5, _), (7, _), (8, _), (9, _)] ⟨rfl, rfl, rfl, rfl, rfl, rfl, trivial⟩ ?_
  refine Hd.toK hK6 ?_
  refine Hd.seq (fun K7 hK7 => ?_)
  refine Hd.region ?_
  refine Hd.yv (y_move rfl) ?_
  refine Hd.callE rfl fk18 (quit_no _ lb ⟨b, noS, none⟩ rfl) (Ent.sep enn) ?_
  intro _
  refine Hd.yv (y_assign rfl) ?_
  refine Hd.nil ?_
  refine Hd.slots [(2, _), (4, _), (5, _), (7, _), (8, _), (9, _), (10, _)] ⟨rfl, rfl, rfl, rfl, rfl, rfl, rfl, trivial⟩ ?_
  refine Hd.toK hK7 ?_
  refine Hd.seq (fun K8 hK8 => ?_)
  refine Hd.region ?_
  refine Hd.yv (y_move rfl) ?_
  refine Hd.yv (y_move rfl) ?_
  refine Hd.callE rfl fk19 (join_ct _ lb gb ⟨b, noS, none⟩ rfl ⟨s, 0⟩ (by show (0 : Int) ≤ 0; omega) (by show (0 : Int) ≤ 1000; omega)) (Ent.sep enn) ?_
  intro _
  refine Hd.yv (y_assign rfl) ?_
  refine Hd.nil ?_
  refine Hd.slots [(2, _), (4, _), (5, _), (7, _), (8, _), (9, _), (10, _), (11, _)] ⟨rfl, rfl, rfl, rfl, rfl, rfl, rfl, rfl, trivial⟩ ?_
  refine Hd.toK hK8 ?_
  refine Hd.seq (fun K9 hK9 => ?_)
  refine Hd.region ?_
  refine Hd.yv (y_move rfl) ?_
  refine Hd.yv (y_move rfl) ?_
  refine Hd.callE rfl fk19 (join_in _ lb gb gb ⟨b, noS, some gb⟩ rfl ⟨s, 0 + 1⟩) (Ent.sep enn) ?_
  intro _
  refine Hd.yv (y_assign rfl) ?_
  refine Hd.nil ?_
  refine Hd.slots [(2, _), (4, _), (5, _), (7, _), (8, _), (9, _), (10, _), (11, _), (12, _)] ⟨rfl, rfl, rfl, rfl, rfl, rfl, rfl, rfl, rfl, trivial⟩ ?_
  refine Hd.toK hK9 ?_
  refine Hd.seq (fun K10 hK10 => ?_)
  refine Hd.region ?_
  refine Hd.yv (y_move rfl) ?_
  refine Hd.callE rfl fk20 (glen_ct _ gb ⟨s, 0 + 1⟩) (Ent.sep enn) ?_
  intro _
  refine Hd.yv (y_assign rfl) ?_
  refine Hd.nil ?_
  refine Hd.slots [(2, _), (4, _), (5, _), (7, _), (8, _), (9, _), (10, _), (11, _), (12, _), (13, _)] ⟨rfl, rfl, rfl, rfl, rfl, rfl, rfl, rfl, rfl, rfl, trivial⟩ ?_
  refine Hd.toK hK10 ?_
  refine Hd.seq (fun K11 hK11 => ?_)
  refine Hd.heap (pt b4 (encRt badR) 24 :: LgL lb ⟨b, noS, some gb⟩ ⟨s, 0 + 1⟩ dmX nmY (BufP b wb frX :: WorldP wb exW :: L)) (fun q t => ?_) ?_
  · refine sep_right (M := [_]) (fun q t => lg_gr rfl q t) (show sep ([pt b4 (encRt badR) 24] ++ _) q from ?_)
    have t2 := sl_no (x := dmX) q t
    exact Ent.sep (.eq pkk (pt_eq (by rfl)) (.pick pkk (.pick pkk (.pick pkk (.pick pkk (.pick pkk (.pick pkk enn))))))) q t2
  refine Hd.region ?_
  refine Hd.yv (y_move rfl) ?_
  refine Hd.callE rfl fk11 (lstep_ct _ lb wb ⟨b, noS, some gb⟩ ⟨s, 0 + 1⟩ dmX nmY nm_c0 frX ex_b0 exW 0 2 in0 ?hF nmS1 (ls_of ((hl0 _ _ _).trans nm_l1) ((hl1 _ _ _).trans nm_m1) nm_f1) (by rw [nm_t1]; simp [InK]) (by rw [nm_u1]; simp [InK])) (Ent.sep enn) ?_
  case hF => exact Rd.mono hF (Ent.sep enn)
  intro _
  refine Hd.alloc zr37 (fun b14 => ?_)
  refine Hd.storeA (us := encT nmS1.t) sz37 rfl rfl rfl (by simp [Value.oneCell']) pkk (by exact rfl) ?_
  refine Hd.nil ?_
  refine Hd.slots [(2, _), (4, _), (5, _), (7, _), (8, _), (9, _), (10, _), (11, _), (12, _), (13, _), (14, _)] ⟨rfl, rfl, rfl, rfl, rfl, rfl, rfl, rfl, rfl, rfl, rfl, trivial⟩ ?_
  refine Hd.toK hK11 ?_
  refine Hd.seq (fun K12 hK12 => ?_)
  refine Hd.heap (LmH lb ⟨b, noS, some gb⟩ :: GrH gb ⟨s, 0 + 1⟩ :: SlB (s 0) (nmY1 0) :: SlB (s 1) (nmY1 1) :: BufP b wb nmS1.x :: WorldP wb nmS1.w :: pt b14 (encT nmS1.t) 37 :: pt b4 (encRt badR) 24 :: L) (fun q t => ?_) ?_
  · have t2 : sep ([pt b14 (encT nmS1.t) 37] ++ LgL lb ⟨b, noS, some gb⟩ ⟨s, 0 + 1⟩ nmX1 nmY1 (BufP b wb nmS1.x :: WorldP wb nmS1.w :: pt b4 (encRt badR) 24 :: L)) q := Ent.sep enn q t
    have t3 : sep (pt b14 (encT nmS1.t) 37 :: LmH lb ⟨b, noS, some gb⟩ :: GrH gb ⟨s, 0 + 1⟩ :: SlB (noS 0) (nmX1 0) :: SlB (noS 1) (nmX1 1) :: SlB (s 0) (nmY1 0) :: SlB (s 1) (nmY1 1) :: BufP b wb nmS1.x :: WorldP wb nmS1.w :: pt b4 (encRt badR) 24 :: L) q := sep_right (M := [_]) (fun q t => lg_grb (gb := gb) rfl q t) t2
    exact Ent.sep enn q t3
  refine Hd.region ?_
  refine Hd.yv (y_move rfl) ?_
  refine Hd.callE rfl fk21 (ghave_ct _ gb ⟨s, 0 + 1⟩ nmY1 nm_c1.y 0 in0) (Ent.sep enn) ?_
  intro _
  rw [hh0, hh1]
  refine Hd.yv (y_move rfl) ?_
  refine Hd.yv (y_extract rfl rfl) ?_
  refine Hd.yv (y_extract rfl rfl) ?_
  refine Hd.yv (y_assign rfl) ?_
  refine Hd.yv (y_assign rfl) ?_
  refine Hd.nil ?_
  refine Hd.slots [(2, _), (4, _), (5, _), (7, _), (8, _), (9, _), (10, _), (11, _), (12, _), (13, _), (14, _), (15, _), (16, _)] ⟨rfl, rfl, rfl, rfl, rfl, rfl, rfl, rfl, rfl, rfl, rfl, rfl, rfl, trivial⟩ ?_
  refine Hd.toK hK12 ?_
  refine Hd.seq (fun K13 hK13 => ?_)
  refine Hd.region ?_
  refine Hd.yv (y_move rfl) ?_
  refine Hd.callE rfl fk18 (quit_ct _ lb gb ⟨b, noS, some gb⟩ rfl ⟨s, 0 + 1⟩ (by show (-1000 : Int) ≤ 0 + 1; omega)) (Ent.sep enn) ?_
  intro _
  refine Hd.yv (y_assign rfl) ?_
  refine Hd.nil ?_
  refine Hd.slots [(2, _), (4, _), (5, _), (7, _), (8, _), (9, _), (10, _), (11, _), (12, _), (13, _), (14, _), (15, _), (16, _), (17, _)] ⟨rfl, rfl, rfl, rfl, rfl, rfl, rfl, rfl, rfl, rfl, rfl, rfl, rfl, rfl, trivial⟩ ?_
  refine Hd.toK hK13 ?_
  refine Hd.seq (fun K14 hK14 => ?_)
  refine Hd.heap (GrH gb ⟨s, 0⟩ :: pt b14 (encT nmS1.t) 37 :: pt b4 (encRt badR) 24 :: LgL lb ⟨b, noS, none⟩ G0 nmX1 dmX (BufP b wb nmS1.x :: WorldP wb nmS1.w :: L)) (fun q t => ?_) ?_
  · refine sep_right (M := [_, _, _]) (fun q t => lg_ng rfl G0 dmX q t) (show sep ([_, _, _] ++ _) q from ?_)
    have t2 := sl_no (x := nmX1) q t
    exact Ent.sep (.eq pkk (pt_eq (by rfl)) (.pick pkk (.pick pkk (.pick pkk (.pick pkk (.pick pkk enn)))))) q t2
  refine Hd.region ?_
  refine Hd.yv (y_move rfl) ?_
  refine Hd.callE rfl fk11 (lstep_ct _ lb wb ⟨b, noS, none⟩ G0 nmX1 dmX nm_c3 nmS1.x nm_o1 nmS1.w 0 2 in0 ?hF nmS2 (ls_of ((hn0 _ _).trans nm_l2) ((hn1 _ _).trans nm_m2) nm_f2) (by rw [nm_t2]; simp [InK]) (by rw [nm_u2]; simp [InK])) (Ent.sep enn) ?_
  case hF => exact Rd.mono hF (Ent.sep enn)
  intro _
  refine Hd.alloc zr37 (fun b18 => ?_)
  refine Hd.storeA (us := encT nmS2.t) sz37 rfl rfl rfl (by simp [Value.oneCell']) pkk (by exact rfl) ?_
  refine Hd.nil ?_
  refine Hd.slots [(2, _), (4, _), (5, _), (7, _), (8, _), (9, _), (10, _), (11, _), (12, _), (13, _), (14, _), (15, _), (16, _), (17, _), (18, _)] ⟨rfl, rfl, rfl, rfl, rfl, rfl, rfl, rfl, rfl, rfl, rfl, rfl, rfl, rfl, rfl, trivial⟩ ?_
  refine Hd.toK hK14 ?_
  refine Hd.seq (fun K15 hK15 => ?_)
  refine Hd.region ?_
  refine Hd.yv (y_assign rfl) ?_
  refine Hd.nil ?_
  refine Hd.slots [(2, _), (4, _), (5, _), (7, _), (8, _), (9, _), (10, _), (11, _), (12, _), (13, _), (14, _), (15, _), (16, _), (17, _), (18, _), (19, _)] ⟨rfl, rfl, rfl, rfl, rfl, rfl, rfl, rfl, rfl, rfl, rfl, rfl, rfl, rfl, rfl, rfl, trivial⟩ ?_
  refine Hd.toK hK15 ?_
  refine Hd.seq (fun K16 hK16 => ?_)
  refine Hd.region ?_
  refine Hd.yv (y_assign rfl) ?_
  refine Hd.nil ?_
  refine Hd.slots [(2, _), (4, _), (5, _), (7, _), (8, _), (9, _), (10, _), (11, _), (12, _), (13, _), (14, _), (15, _), (16, _), (17, _), (18, _), (19, _), (20, _)] ⟨rfl, rfl, rfl, rfl, rfl, rfl, rfl, rfl, rfl, rfl, rfl, rfl, rfl, rfl, rfl, rfl, rfl, trivial⟩ ?_
  refine Hd.toK hK16 ?_
  refine Hd.seq (fun K17 hK17 => ?_)
  refine Hd.region ?_
  refine Hd.yv (y_move rfl) ?_
  refine Hd.yv (y_move rfl) ?_
  refine Hd.callE rfl fk19 (join_nil _ lb ⟨b, noS, none⟩) (Ent.sep enn) ?_
  intro _
  refine Hd.yv (y_assign rfl) ?_
  refine Hd.nil ?_
  refine Hd.slots [(2, _), (4, _), (5, _), (7, _), (8, _), (9, _), (10, _), (11, _), (12, _), (13, _), (14, _), (15, _), (16, _), (17, _), (18, _), (19, _), (20, _), (21, _)] ⟨rfl, rfl, rfl, rfl, rfl, rfl, rfl, rfl, rfl, rfl, rfl, rfl, rfl, rfl, rfl, rfl, rfl, rfl, trivial⟩ ?_
  refine Hd.toK hK17 ?_
  refine Hd.seq (fun K18 hK18 => ?_)
  refine Hd.region ?_
  refine Hd.callE rfl fk22 (lnew_nil _) (Ent.sep enn) ?_
  intro _
  refine Hd.yv (y_move rfl) ?_
  refine Hd.yv (y_extract rfl rfl) ?_
  refine Hd.yv (y_extract rfl rfl) ?_
  refine Hd.yv (y_assign rfl) ?_
  refine Hd.yv (y_assign rfl) ?_
  refine Hd.nil ?_
  refine Hd.slots [(2, _), (4, _), (5, _), (7, _), (8, _), (9, _), (10, _), (11, _), (12, _), (13, _), (14, _), (15, _), (16, _), (17, _), (18, _), (19, _), (20, _), (21, _), (23, _)] ⟨rfl, rfl, rfl, rfl, rfl, rfl, rfl, rfl, rfl, rfl, rfl, rfl, rfl, rfl, rfl, rfl, rfl, rfl, rfl, trivial⟩ ?_
  refine Hd.toK hK18 ?_
  refine Hd.seq (fun K19 hK19 => ?_)
  refine Hd.region ?_
  refine Hd.yv (y_move rfl) ?_
  first | (refine Hd.yv (y_to (y_eqlT rfl rfl) (congrArg Value.bool (decide_eq_true ((by rfl))))) ?_) | (refine Hd.yv (y_to (y_eql rfl rfl) (congrArg Value.bool (decide_eq_true ((by rfl))))) ?_)
  refine Hd.yv (y_move rfl) ?_
  refine Hd.yg rfl rfl (y_move rfl) ?_
  first | (refine Hd.yg rfl rfl (y_to (y_eqlT rfl rfl) (congrArg Value.bool (decide_eq_true ((by rfl))))) ?_) | (refine Hd.yg rfl rfl (y_to (y_eql rfl rfl) (congrArg Value.bool (decide_eq_true ((by rfl))))) ?_)
  first | (refine Hd.yv (y_pickT rfl rfl) ?_) | (refine Hd.yv (y_pickF rfl rfl) ?_) | (refine Hd.yv (y_pickb rfl rfl rfl) ?_) | (refine Hd.yv (y_pick rfl rfl rfl) ?_)
  refine Hd.yv (y_move rfl) ?_
  refine Hd.yg rfl rfl (y_move rfl) ?_
  first | (refine Hd.yg rfl rfl (y_to (y_eqlT rfl rfl) (congrArg Value.bool (decide_eq_true ((by rfl))))) ?_) | (refine Hd.yg rfl rfl (y_to (y_eql rfl rfl) (congrArg Value.bool (decide_eq_true ((by rfl))))) ?_)
  first | (refine Hd.yv (y_pickT rfl rfl) ?_) | (refine Hd.yv (y_pickF rfl rfl) ?_) | (refine Hd.yv (y_pickb rfl rfl rfl) ?_) | (refine Hd.yv (y_pick rfl rfl rfl) ?_)
  refine Hd.yv (y_move rfl) ?_
  refine Hd.yg rfl rfl (y_move rfl) ?_
  first | (refine Hd.yg rfl rfl (y_to (y_eqlT rfl rfl) (congrArg Value.bool (decide_eq_true ((by rfl))))) ?_) | (refine Hd.yg rfl rfl (y_to (y_eql rfl rfl) (congrArg Value.bool (decide_eq_true ((by rfl))))) ?_)
  first | (refine Hd.yv (y_pickT rfl rfl) ?_) | (refine Hd.yv (y_pickF rfl rfl) ?_) | (refine Hd.yv (y_pickb rfl rfl rfl) ?_) | (refine Hd.yv (y_pick rfl rfl rfl) ?_)
  refine Hd.yv (y_move rfl) ?_
  refine Hd.yg rfl rfl (y_move rfl) ?_
  first | (refine Hd.yg rfl rfl (y_to (y_eqlT rfl rfl) (congrArg Value.bool (decide_eq_true ((by rfl))))) ?_) | (refine Hd.yg rfl rfl (y_to (y_eql rfl rfl) (congrArg Value.bool (decide_eq_true ((by rfl))))) ?_)
  first | (refine Hd.yv (y_pickT rfl rfl) ?_) | (refine Hd.yv (y_pickF rfl rfl) ?_) | (refine Hd.yv (y_pickb rfl rfl rfl) ?_) | (refine Hd.yv (y_pick rfl rfl rfl) ?_)
  refine Hd.yv (y_move rfl) ?_
  refine Hd.yg rfl rfl (y_move rfl) ?_
  first | (refine Hd.yg rfl rfl (y_to (y_eqlT rfl rfl) (congrArg Value.bool (decide_eq_true ((by rfl))))) ?_) | (refine Hd.yg rfl rfl (y_to (y_eql rfl rfl) (congrArg Value.bool (decide_eq_true ((by rfl))))) ?_)
  first | (refine Hd.yv (y_pickT rfl rfl) ?_) | (refine Hd.yv (y_pickF rfl rfl) ?_) | (refine Hd.yv (y_pickb rfl rfl rfl) ?_) | (refine Hd.yv (y_pick rfl rfl rfl) ?_)
  refine Hd.yv (y_move rfl) ?_
  refine Hd.yg rfl rfl (y_move rfl) ?_
  first | (refine Hd.yg rfl rfl (y_to (y_eqlT rfl rfl) (congrArg Value.bool (decide_eq_true ((by rfl))))) ?_) | (refine Hd.yg rfl rfl (y_to (y_eql rfl rfl) (congrArg Value.bool (decide_eq_true ((by rfl))))) ?_)
  first | (refine Hd.yv (y_pickT rfl rfl) ?_) | (refine Hd.yv (y_pickF rfl rfl) ?_) | (refine Hd.yv (y_pickb rfl rfl rfl) ?_) | (refine Hd.yv (y_pick rfl rfl rfl) ?_)
  refine Hd.yv (y_move rfl) ?_
  first | (refine Hd.yg rfl rfl (y_field' (q := 4) (ft := 3) Tryd.underlying37 rfl sz3 rfl rfl) ?_) | (refine Hd.yg rfl rfl (y_fieldR (q := 4) (ft := 3) Tryd.underlying37 rfl sz3 rfl rfl) ?_)
  first | (refine Hd.yg rfl rfl (y_load1 ag3 rfl (Rd.pt1 pkk (by (first | exact congrArg some (congrArg (Value.int .i64) nm_t1) | exact congrArg some (congrArg (Value.int .i64) nm_t2) | rfl)))) ?_) | (refine Hd.yg rfl rfl (y_load1 ag3 rfl (Rd.seg1 pkk (by (first | exact congrArg some (congrArg (Value.int .i64) nm_t1) | exact congrArg some (congrArg (Value.int .i64) nm_t2) | rfl)))) ?_) | (refine Hd.yg rfl rfl (y_load1 ag3 rfl (Rd.segK1 pkk (by decide) (by (first | exact congrArg some (congrArg (Value.int .i64) nm_t1) | exact congrArg some (congrArg (Value.int .i64) nm_t2) | rfl)))) ?_) | (refine Hd.yg rfl rfl (y_loadR1 ag3 rfl (by (first | exact RdS.own pkk)) (by (first | exact congrArg some (congrArg (Value.int .i64) nm_t1) | exact congrArg some (congrArg (Value.int .i64) nm_t2) | rfl))) ?_)
  first | (refine Hd.yg rfl rfl (y_to (y_eqlT rfl rfl) (congrArg Value.bool (decide_eq_true ((by rfl))))) ?_) | (refine Hd.yg rfl rfl (y_to (y_eql rfl rfl) (congrArg Value.bool (decide_eq_true ((by rfl))))) ?_)
  first | (refine Hd.yv (y_pickT rfl rfl) ?_) | (refine Hd.yv (y_pickF rfl rfl) ?_) | (refine Hd.yv (y_pickb rfl rfl rfl) ?_) | (refine Hd.yv (y_pick rfl rfl rfl) ?_)
  refine Hd.yv (y_move rfl) ?_
  refine Hd.yg rfl rfl (y_move rfl) ?_
  first | (refine Hd.yg rfl rfl (y_to (y_eqlT rfl rfl) (congrArg Value.bool (decide_eq_true ((by rfl))))) ?_) | (refine Hd.yg rfl rfl (y_to (y_eql rfl rfl) (congrArg Value.bool (decide_eq_true ((by rfl))))) ?_)
  first | (refine Hd.yv (y_pickT rfl rfl) ?_) | (refine Hd.yv (y_pickF rfl rfl) ?_) | (refine Hd.yv (y_pickb rfl rfl rfl) ?_) | (refine Hd.yv (y_pick rfl rfl rfl) ?_)
  refine Hd.yv (y_move rfl) ?_
  refine Hd.yg rfl rfl (y_move rfl) ?_
  first | (refine Hd.yg rfl rfl (y_to (y_eqlT rfl rfl) (congrArg Value.bool (decide_eq_true ((by rfl))))) ?_) | (refine Hd.yg rfl rfl (y_to (y_eql rfl rfl) (congrArg Value.bool (decide_eq_true ((by rfl))))) ?_)
  first | (refine Hd.yv (y_pickT rfl rfl) ?_) | (refine Hd.yv (y_pickF rfl rfl) ?_) | (refine Hd.yv (y_pickb rfl rfl rfl) ?_) | (refine Hd.yv (y_pick rfl rfl rfl) ?_)
  refine Hd.yv (y_move rfl) ?_
  refine Hd.yg rfl rfl (y_move rfl) ?_
  first | (refine Hd.yg rfl rfl (y_to (y_eqlT rfl rfl) (congrArg Value.bool (decide_eq_true ((by rfl))))) ?_) | (refine Hd.yg rfl rfl (y_to (y_eql rfl rfl) (congrArg Value.bool (decide_eq_true ((by rfl))))) ?_)
  first | (refine Hd.yv (y_pickT rfl rfl) ?_) | (refine Hd.yv (y_pickF rfl rfl) ?_) | (refine Hd.yv (y_pickb rfl rfl rfl) ?_) | (refine Hd.yv (y_pick rfl rfl rfl) ?_)
  refine Hd.yv (y_move rfl) ?_
  first | (refine Hd.yg rfl rfl (y_field' (q := 4) (ft := 3) Tryd.underlying37 rfl sz3 rfl rfl) ?_) | (refine Hd.yg rfl rfl (y_fieldR (q := 4) (ft := 3) Tryd.underlying37 rfl sz3 rfl rfl) ?_)
  first | (refine Hd.yg rfl rfl (y_load1 ag3 rfl (Rd.pt1 pkk (by (first | exact congrArg some (congrArg (Value.int .i64) nm_t1) | exact congrArg some (congrArg (Value.int .i64) nm_t2) | rfl)))) ?_) | (refine Hd.yg rfl rfl (y_load1 ag3 rfl (Rd.seg1 pkk (by (first | exact congrArg some (congrArg (Value.int .i64) nm_t1) | exact congrArg some (congrArg (Value.int .i64) nm_t2) | rfl)))) ?_) | (refine Hd.yg rfl rfl (y_load1 ag3 rfl (Rd.segK1 pkk (by decide) (by (first | exact congrArg some (congrArg (Value.int .i64) nm_t1) | exact congrArg some (congrArg (Value.int .i64) nm_t2) | rfl)))) ?_) | (refine Hd.yg rfl rfl (y_loadR1 ag3 rfl (by (first | exact RdS.own pkk)) (by (first | exact congrArg some (congrArg (Value.int .i64) nm_t1) | exact congrArg some (congrArg (Value.int .i64) nm_t2) | rfl))) ?_)
  first | (refine Hd.yg rfl rfl (y_to (y_eqlT rfl rfl) (congrArg Value.bool (decide_eq_true ((by rfl))))) ?_) | (refine Hd.yg rfl rfl (y_to (y_eql rfl rfl) (congrArg Value.bool (decide_eq_true ((by rfl))))) ?_)
  first | (refine Hd.yv (y_pickT rfl rfl) ?_) | (refine Hd.yv (y_pickF rfl rfl) ?_) | (refine Hd.yv (y_pickb rfl rfl rfl) ?_) | (refine Hd.yv (y_pick rfl rfl rfl) ?_)
  refine Hd.yv (y_move rfl) ?_
  refine Hd.yg rfl rfl (y_move rfl) ?_
  refine Hd.unguard rfl rfl ?_
  refine Hd.callE rfl fk20 (glen_ct _ gb ⟨s, 0⟩) (Ent.sep enn) ?_
  intro _
  first | (refine Hd.yg rfl rfl (y_to (y_eqlT rfl rfl) (congrArg Value.bool (decide_eq_true ((by rfl))))) ?_) | (refine Hd.yg rfl rfl (y_to (y_eql rfl rfl) (congrArg Value.bool (decide_eq_true ((by rfl))))) ?_)
  first | (refine Hd.yv (y_pickT rfl rfl) ?_) | (refine Hd.yv (y_pickF rfl rfl) ?_) | (refine Hd.yv (y_pickb rfl rfl rfl) ?_) | (refine Hd.yv (y_pick rfl rfl rfl) ?_)
  refine Hd.yv (y_assign rfl) ?_
  refine Hd.nil ?_
  refine Hd.slots [(2, _), (4, _), (19, _), (20, _), (21, _), (23, _), (24, _)] ⟨rfl, rfl, rfl, rfl, rfl, rfl, rfl, trivial⟩ ?_
  refine Hd.toK hK19 ?_
  refine Hd.seq (fun K20 hK20 => ?_)
  refine Hd.region ?_
  refine Hd.callE rfl fk7 (alive27_ct _ ?hF) (Ent.sep enn) ?_
  case hF => exact Rd.mono hF (Ent.sep enn)
  intro _
  refine Hd.yv (y_move rfl) ?_
  first | (refine Hd.yv (y_pickT rfl rfl) ?_) | (refine Hd.yv (y_pickF rfl rfl) ?_) | (refine Hd.yv (y_pickb rfl rfl rfl) ?_) | (refine Hd.yv (y_pick rfl rfl rfl) ?_)
  refine Hd.yv (y_move rfl) ?_
  refine Hd.yg rfl rfl (y_move rfl) ?_
  first | (refine Hd.yv (y_pickT rfl rfl) ?_) | (refine Hd.yv (y_pickF rfl rfl) ?_) | (refine Hd.yv (y_pickb rfl rfl rfl) ?_) | (refine Hd.yv (y_pick rfl rfl rfl) ?_)
  refine Hd.yv (y_move rfl) ?_
  refine Hd.yg rfl rfl (y_move rfl) ?_
  first | (refine Hd.yg rfl rfl (y_to (y_eqlT rfl rfl) (congrArg Value.bool (decide_eq_true ((by rfl))))) ?_) | (refine Hd.yg rfl rfl (y_to (y_eql rfl rfl) (congrArg Value.bool (decide_eq_true ((by rfl))))) ?_)
  first | (refine Hd.yv (y_pickT rfl rfl) ?_) | (refine Hd.yv (y_pickF rfl rfl) ?_) | (refine Hd.yv (y_pickb rfl rfl rfl) ?_) | (refine Hd.yv (y_pick rfl rfl rfl) ?_)
  refine Hd.yv (y_move rfl) ?_
  refine Hd.yg rfl rfl (y_move rfl) ?_
  first | (refine Hd.yg rfl rfl (y_to (y_eqlT rfl rfl) (congrArg Value.bool (decide_eq_true ((by rfl))))) ?_) | (refine Hd.yg rfl rfl (y_to (y_eql rfl rfl) (congrArg Value.bool (decide_eq_true ((by rfl))))) ?_)
  first | (refine Hd.yv (y_pickT rfl rfl) ?_) | (refine Hd.yv (y_pickF rfl rfl) ?_) | (refine Hd.yv (y_pickb rfl rfl rfl) ?_) | (refine Hd.yv (y_pick rfl rfl rfl) ?_)
  refine Hd.yv (y_move rfl) ?_
  refine Hd.yg rfl rfl (y_move rfl) ?_
  refine Hd.yg rfl rfl (y_loadn (us := encRt badR) ag24 rfl (Rd.pt (b := b4) pkk (fun j v e => by rw [Nat.zero_add]; exact e)) (by exact sz24)) ?_
  refine Hd.yg rfl rfl (y_loadn (us := encRt badR) ag24 rfl (Rd.pt (b := b4) pkk (fun j v e => by rw [Nat.zero_add]; exact e)) (by exact sz24)) ?_
  refine Hd.unguard rfl rfl ?_
  refine Hd.callE rfl fk9 (lset_nil _ (rts badR badR) 0) (Ent.sep enn) ?_
  intro _
  first | (refine Hd.yg rfl rfl (y_to (y_eqlT rfl rfl) (congrArg Value.bool (decide_eq_true ((by rfl))))) ?_) | (refine Hd.yg rfl rfl (y_to (y_eql rfl rfl) (congrArg Value.bool (decide_eq_true ((by rfl))))) ?_)
  first | (refine Hd.yv (y_pickT rfl rfl) ?_) | (refine Hd.yv (y_pickF rfl rfl) ?_) | (refine Hd.yv (y_pickb rfl rfl rfl) ?_) | (refine Hd.yv (y_pick rfl rfl rfl) ?_)
  refine Hd.yv (y_move rfl) ?_
  refine Hd.yg rfl rfl (y_move rfl) ?_
  refine Hd.unguard rfl rfl ?_
  refine Hd.callE rfl fk16 (lwants_nil _ 0) (Ent.sep enn) ?_
  intro _
  first | (refine Hd.yg rfl rfl (y_to (y_eqlT rfl rfl) (congrArg Value.bool (decide_eq_true ((by rfl))))) ?_) | (refine Hd.yg rfl rfl (y_to (y_eql rfl rfl) (congrArg Value.bool (decide_eq_true ((by rfl))))) ?_)
  first | (refine Hd.yv (y_pickT rfl rfl) ?_) | (refine Hd.yv (y_pickF rfl rfl) ?_) | (refine Hd.yv (y_pickb rfl rfl rfl) ?_) | (refine Hd.yv (y_pick rfl rfl rfl) ?_)
  refine Hd.yv (y_move rfl) ?_
  refine Hd.yg rfl rfl (y_move rfl) ?_
  refine Hd.unguard rfl rfl ?_
  refine Hd.callE rfl fk12 (lbuf_nil _) (Ent.sep enn) ?_
  intro _
  first | (refine Hd.yg rfl rfl (y_to (v' := .bool true) (y_eql_pointer Tryd.underlying39 rfl rfl) (by rfl)) ?_) | (refine Hd.yg rfl rfl (y_to (v' := .bool true) (y_eql_one Tryd.underlying39 sz104 rfl rfl rfl) (by rfl)) ?_)
  first | (refine Hd.yv (y_pickT rfl rfl) ?_) | (refine Hd.yv (y_pickF rfl rfl) ?_) | (refine Hd.yv (y_pickb rfl rfl rfl) ?_) | (refine Hd.yv (y_pick rfl rfl rfl) ?_)
  refine Hd.yv (y_move rfl) ?_
  refine Hd.yg rfl rfl (y_move rfl) ?_
  refine Hd.unguard rfl rfl ?_
  refine Hd.callE rfl fk15 (lwhen_ct _ lb wb ⟨b, noS, none⟩ G0 nmX2 (stX 0 nmS2.t dmX) nm_c4 nmS2.x 0 in0 ?hF) (Ent.sep enn) ?_
  case hF => exact Rd.mono hF (Ent.sep enn)
  intro _
  rw [whK_2, hn0, hn1, nm_l3, if_pos (.inl nm_b4), if_pos (.inr (by decide))]
  first | (refine Hd.yg rfl rfl (y_to (y_eqlT rfl rfl) (congrArg Value.bool (decide_eq_true ((by rfl))))) ?_) | (refine Hd.yg rfl rfl (y_to (y_eql rfl rfl) (congrArg Value.bool (decide_eq_true ((by rfl))))) ?_)
  first | (refine Hd.yv (y_pickT rfl rfl) ?_) | (refine Hd.yv (y_pickF rfl rfl) ?_) | (refine Hd.yv (y_pickb rfl rfl rfl) ?_) | (refine Hd.yv (y_pick rfl rfl rfl) ?_)
  refine Hd.yv (y_move rfl) ?_
  refine Hd.yg rfl rfl (y_move rfl) ?_
  refine Hd.unguard rfl rfl ?_
  refine Hd.callE rfl fk20 (glen_nil _) (Ent.sep enn) ?_
  intro _
  first | (refine Hd.yg rfl rfl (y_to (y_eqlT rfl rfl) (congrArg Value.bool (decide_eq_true ((by rfl))))) ?_) | (refine Hd.yg rfl rfl (y_to (y_eql rfl rfl) (congrArg Value.bool (decide_eq_true ((by rfl))))) ?_)
  first | (refine Hd.yv (y_pickT rfl rfl) ?_) | (refine Hd.yv (y_pickF rfl rfl) ?_) | (refine Hd.yv (y_pickb rfl rfl rfl) ?_) | (refine Hd.yv (y_pick rfl rfl rfl) ?_)
  refine Hd.yv (y_assign rfl) ?_
  refine Hd.nil ?_
  refine Hd.slots [(0, _)] ⟨rfl, trivial⟩ ?_
  refine Hd.toK hK20 ?_
  refine Hd.ret ?_
  clear hK1 hK2 hK3 hK4 hK5 hK6 hK7 hK8 hK9 hK10 hK11 hK12 hK13 hK14 hK15 hK16 hK17 hK18 hK19 hK20
  exact Hd.ret1 rfl () (by first | rfl | (simp only [*]; done) | (simp [*]; done)) (Ent.sep enn)
end Lm
end Go.Proofs.YtmpemhbfgbochaaDoor
namespace Go.Proofs.YtmpemhbfgbochaaDoor
set_option linter.unusedSimpArgs false
set_option linter.unusedVariables false
set_option linter.unnecessarySimpa false
open Go.RX Go.ChangeShapes Go.WideShapes Go.ChangeAt Go.RowKit
theorem Tryd.own : ownKnob Tryd.prog.godebug = none := by kernel_rfl
theorem Tryd.laidOut : laidOutB Tryd.prog = true := by kernel_rfl
theorem gTab : Tryd.prog.globalNamed "roundhouse/limit.flags" = some 0 := by kernel_rfl
theorem gTabType : (Tryd.prog.globals[0]?).map (·.type) = some 107 := by kernel_rfl
theorem cellsT : Tryd.prog.cellsOf 107 = 2 := by kernel_rfl
theorem cellsE : Tryd.prog.cellsOf 3 = 1 := by kernel_rfl
theorem LimitNames_tab {W : World} (h : laidMetH Tryd.prog Rows.limitNamesRow.laid W) : Lib.TabIs Tryd.prog W "roundhouse/limit.flags" .i64 [2, 4] :=
  Lib.tabIs_of_head (rest := []) gTab gTabType Tryd.underlying107 Tryd.underlying3 cellsE cellsT h
theorem LimitNames_rd {W : World} (h : laidMetH Tryd.prog Rows.limitNamesRow.laid W) : Rd [Old W] 0 0 Lm.flV := Rd.old .here (fun j v e => by
  rcases j with _ | _ | j
  · simp at e; subst e; exact (LimitNames_tab h).cell gTab 0 (by decide)
  · simp at e; subst e; exact (LimitNames_tab h).cell gTab 1 (by decide)
  · simp at e)
noncomputable def laidWorld (os : Os) : World :=
  { World.holding Tryd.prog os ⟨#[], #[], []⟩ with heap := (World.holding Tryd.prog os ⟨#[], #[], []⟩).heap.modify 0 fun
      | .cells _ t frozen => .cells #[.int .i64 2, .int .i64 4] t frozen
      | o => o }
theorem laid_met (os : Os) : laidMet Tryd.prog Rows.limitNamesRow.laid ((laidWorld os).forCall (fun _ _ => 0) ⟨#[], #[], []⟩).memory :=
  laidMet_of_run' 8 (by kernel_rfl) (by kernel_rfl)
set_option maxRecDepth 100000 in
theorem LimitNames_contract (H : Type) (enc : TypeId × Value → H) (W : World) (base : Nat) (args : Array Value) (ds gs : List (DataW H)) (before : List MemPlace)
    (hval : ∀ (j : Nat) t v, Tryd.f4.params[j]? = some t → args[j]? = some v → Value.okWide Tryd.prog W .any base t v)
    (hW : DataW.Whole enc Tryd.prog Tryd.f4.params.toList Rows.limitNamesSpec.vars false W args.toList ds gs before) (hL : laidMetH Tryd.prog Rows.limitNamesRow.laid W) :
    Calls Tryd.prog 4 args W fun e W' => ∃ v, e = .returned v ∧ Rows.limitNamesSpec.post enc Tryd.prog Tryd.f4 false true false false W args v W' := by
  have hW' := hW
  obtain ⟨p, q, hA0, hV, rfl, hfz, hnd⟩ := hW
  have hA : DataW.TrodAll enc Tryd.prog W 0 (fun _ => true) true Tryd.f4.params.toList args.toList ds p := hA0
  obtain ⟨rfl, rfl⟩ := trodVars_none hV
  simp only [List.append_nil] at hW'
  have hA1 := hA
  rw [Tryd.params4] at hA hval
  obtain ⟨hargs, rfl, rfl⟩ := trodAll_nil hA
  obtain rfl : args = #[] := by cases args; simp_all
  have hF := LimitNames_rd hL
  refine (law_calls (Lm.lnames_ct [Old W] hF)).mono fun e W' ⟨he, hb⟩ => ?_
  subst he
  exact ⟨_, rfl, law_post Tryd.laidOut rfl Tryd.underlying4 rfl rfl (of_decide_eq_true (by kernel_rfl)) hW' hA1 hb⟩
set_option maxRecDepth 100000 in
theorem LimitNames_lifted (os : Os) (started : os.Started) (H : Type) (enc : TypeId × Value → H) (F : Stop.Interp) :
    ReturnsInHanded {} Tryd.checked os 4 .any ((OpenSpec.ofChange Rows.limitNamesSpec).preRow enc Tryd.prog Tryd.f4 Rows.limitNamesRow.domain false Rows.limitNamesRow.laid) (((OpenSpec.ofChange Rows.limitNamesSpec).at F).post enc Tryd.prog Tryd.f4 false true false false) := by
  have hsome : (DataW.whole enc Tryd.prog ((laidWorld os).forCall (fun _ _ => 0) ⟨#[], #[], []⟩).memory Tryd.f4.params.toList Rows.limitNamesSpec.vars false (#[] : Array Value).toList 8).isSome = true := by kernel_rfl
  obtain ⟨x0, hx⟩ := Option.isSome_iff_exists.1 hsome
  refine returnsInHanded_of_row (C := Tryd.checked) (s := OpenSpec.ofChange Rows.limitNamesSpec) Tryd.own started (by kernel_rfl) Tryd.func4
    (witness_row_at (enc := enc) (C := Tryd.checked) false (laidWorld os) #[] rfl (by kernel_rfl) (by kernel_rfl) (by kernel_rfl)
      (OpenSpec.preRow_of_cond 8 hx rfl (fun k hk => by cases hk) (by kernel_rfl) (laid_met os))) ?_
  intro W base args ds gs before hval hW _ _ _ hL _ _
  exact LimitNames_contract H enc W base args ds gs before hval hW hL
theorem LimitNames_said : Rows.LimitNamesSaid :=
  OpenClaim.holds_of_cond 4 Tryd.f4 rfl rfl rfl rfl rfl rfl rfl ⟨rfl, rfl, rfl, rfl, rfl⟩ rfl rfl rfl rfl rfl (by kernel_rfl) Tryd.func4 (by kernel_rfl)
    (of_decide_eq_true (by kernel_rfl)) (by unfold Func.isWrapper; first | (rw [if_pos (by decide +kernel)]; kernel_rfl) | (rw [if_neg (by decide +kernel)]; exact ⟨rfl, rfl⟩))
    (fun os started H enc _ F => by rw [OpenClaim.pre_eq_preRow]; exact LimitNames_lifted os started H enc F)
theorem LimitNames_plain (f : FuncId) (fn : Func) (hf : Tryd.pinned.checked.prog.funcNamed "roundhouse/roundhouselaw27.LimitNames" = some f) (hfn : Tryd.pinned.checked.prog.funcs[f]? = some fn) :
    false = Tryd.pinned.checked.prog.looks [] ∧ ∀ (j : Nat) t, fn.params[j]? = some t → Tryd.pinned.checked.prog.wantsStandIn t = false := by
  obtain rfl : f = 4 := Option.some.inj ((show Tryd.prog.funcNamed "roundhouse/roundhouselaw27.LimitNames" = some 4 by kernel_rfl).symm.trans hf) |>.symm
  obtain rfl : fn = Tryd.f4 := (Option.some.inj (Tryd.func4.symm.trans hfn)).symm
  refine ⟨by kernel_rfl, fun j t ht => ?_⟩
  have hall : Tryd.f4.params.all (fun t => !Tryd.prog.wantsStandIn t) = true := by kernel_rfl
  have := Array.all_eq_true.1 hall j (Array.getElem?_eq_some_iff.1 ht).1
  rw [(Array.getElem?_eq_some_iff.1 ht).2] at this
  have h2 : Tryd.prog.wantsStandIn t = false := by simpa using this
  exact h2
theorem LimitNames_holds : Rows.LimitNamesCardSaid :=
  Claim7.holds_tied_plain_at .later [] _ _ _ _ LimitNames_said (fun _ h => by cases h) (by kernel_rfl) (fun _ h => by cases h) limitNames_row_tie rfl ⟨rfl, rfl⟩ (by kernel_rfl) rfl LimitNames_plain (by kernel_rfl)
end Go.Proofs.YtmpemhbfgbochaaDoor
