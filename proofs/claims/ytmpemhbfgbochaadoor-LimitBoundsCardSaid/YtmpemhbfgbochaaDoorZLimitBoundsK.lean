/- No more passes than the buckets allow, in whatever stretch: the law LimitBounds answers true, whatever its input, the table of flags being what the program's text lays. No other condition. -/
import Derived.Test.YtmpemhbfgbochaaDoorCards
import Derived.Test.YtmpemhbfgbochaaDoorTie
import Derived.OpenShut
import Derived.Deep.DeepHandedRow
import Derived.Lib.LaidTab
import Derived.Lib.SmallJoins
import Derived.Test.YtmpemhbfgbochaaDoorZLimitBoundsJ
namespace Go.RX
set_option linter.unusedSimpArgs false
set_option linter.unusedVariables false
set_option linter.unnecessarySimpa false
variable {E : World} {n : Nat} {ds : List Deferred} {st : List (Nat × Value)} {L : List SP} {P : Program}
variable {d : Nat} {ty t : TypeId} {pos : String} {af : Array Edge} {g : Option (Nat × Bool)} {x y : Operand} {k : IntKind}
theorem y_idxAR {o m len j : Nat} {e : TypeId} {ad : Option Addr} (hu : P.underlying t = some (.array len e)) (hs : szk P e = some m) (hx : evo st x = some (.pointer (some ((adr ad).add o))))
    (hy : evo st y = some (.int k (Int.ofNat j))) (hj : j < len) : Yv E n ds st L P ⟨some d, .indexAddr t x y, ty, pos, af, g⟩ (.pointer (some ((adr ad).add (o + j * m)))) := fun a w f s => by
  simp only [execOp, f.ev hx, f.ev hy]
  simp only [Instr.indexAt, asIntOf, Sem.run_bind, run_underlying hu, Result.andThen, Instr.sureAddr, go_sem]
  simp [run_sizeOf' hs, hj, Addr.add_add]
end Go.RX
namespace Go.Proofs.YtmpemhbfgbochaaDoor
set_option linter.unusedSimpArgs false
set_option linter.unusedVariables false
set_option linter.unnecessarySimpa false
open Go.RX Fx
namespace Lm
open Bu Wo
set_option maxRecDepth 8000
theorem nset (n : Nat → Int) {k : Nat} (hk : k < 2) (v : Int) : [Value.int .i64 (n 0), .int .i64 (n 1)].set (0 + k * 1) (.int .i64 v) = [.int .i64 (nU n k v 0), .int .i64 (nU n k v 1)] := by
  rcases (show k = 0 ∨ k = 1 by omega) with rfl | rfl
  · rfl
  · rfl
theorem rz_no {r : RtA} (h : 0 < r.every) : rz r = false := by
  unfold rz
  have : r.every ≠ 0 := by omega
  simp [this]
abbrev oX (ow : RtA) : Nat → BkA := gvX noS dmX 0 (rts ow r0)
abbrev aX (all : RtA) : Nat → BkA := ngX 0 (rts all r0)
abbrev LimF (wb gb : Nat) (r : Nat → LrA) (x : Nat → Nat → BkA) (X : Nat → BfA) (k : Nat) : SP := LimP wb gb (r k) (x k) (X k)
theorem limF_set {wb gb : Nat} {r : Nat → LrA} {x : Nat → Nat → BkA} {X : Nat → BfA} {k : Nat} (hk : k < 2) {v : Nat → BkA} {V : BfA} {L : List SP} : ∀ q, sep (LimP wb gb (r k) v V :: LimF wb gb r x X (1 - k) :: L) q → sep (LimF wb gb r (xU x k v) (bU X k V) 0 :: LimF wb gb r (xU x k v) (bU X k V) 1 :: L) q := fun q s => by
  refine two_l (f := LimF wb gb r (xU x k v) (bU X k V)) hk q ?_
  show sep (LimP wb gb (r k) (xU x k v k) (bU X k V k) :: LimP wb gb (r (1 - k)) (xU x k v (1 - k)) (bU X k V (1 - k)) :: L) q
  rw [xU_at, bU_at, xU_ne _ _ (show 1 - k ≠ k by omega), bU_ne _ _ (show 1 - k ≠ k by omega)]
  exact s
structure LrOk (ow : RtA) (r : LrA) : Prop where
  s0 : (r.s 0).isSome = !rz ow
  s1 : (r.s 1).isSome = false
set_option maxHeartbeats 2000000 in
theorem lb_ok (L : List SP) (hF : Rd L 0 0 flV) (ow all : RtA) (hB : mayB (rts all r0) = true) (hO : mayB (rts ow r0) = true) (ga : Option Addr) (gc : Nat) (gaps : List Int) (hG : RdS L 1 ga gaps.length (gaps.map fun y => .int .u16 y)) (hgv : ∀ x ∈ gaps, InK .u16 x) : Ct Tryd.prog 5 #[.agg (encRt ow).toArray, .agg (encRt all).toArray, .slice ga gaps.length gc] (L) (fun _ : Unit => .bool true) (fun _ : Unit => L) := by
  refine Ct.of (vs := [.agg (encRt ow).toArray, .agg (encRt all).toArray, .slice ga gaps.length gc]) Tryd.func5 rfl rfl [(0, .agg (encRt ow).toArray), (1, .agg (encRt all).toArray), (2, .slice ga gaps.length gc)] (by repeat (first | exact trivial | refine ⟨rfl, ?_⟩)) ?_
  intro E
  show Hd E 229 _ _ _ _
  refine Hd.seq (fun K1 hK1 => ?_)
  refine Hd.region ?_
  refine Hd.box rfl rfl (fun b3 => ?_)
  refine Hd.box rfl rfl (fun b4 => ?_)
  refine Hd.yv (y_assign rfl) ?_
  refine Hd.nil ?_
  refine Hd.slots [(2, _), (3, _), (4, _)] ⟨rfl, rfl, rfl, trivial⟩ ?_
  refine Hd.toK hK1 ?_
  refine Hd.seq (fun K2 hK2 => ?_)
  refine Hd.region ?_
  refine Hd.callE rfl fk7 (alive27_ct _ ?hF) (Ent.sep enn) ?_
  case hF => exact Rd.mono hF (Ent.sep enn)
  intro _
  refine Hd.yv (y_assign rfl) ?_
  refine Hd.nil ?_
  refine Hd.slots [(2, _), (3, _), (4, _), (7, _)] ⟨rfl, rfl, rfl, rfl, trivial⟩ ?_
  refine Hd.toK hK2 ?_
  refine Hd.seq (fun K3 hK3 => ?_)
  refine Hd.seq (fun K4 hK4 => ?_)
  refine Hd.region ?_
  refine Hd.yv (y_move rfl) ?_
  refine Hd.yv (y_len Tryd.underlying57 rfl) ?_
  refine Hd.yv (y_gtr rfl rfl) ?_
  refine Hd.yv (y_move rfl) ?_
  apply Hd.org 3 35 38 [(2, _), (3, _), (4, _), (7, _)] rfl ⟨rfl, rfl, rfl, rfl, trivial⟩
  · intro hg2_35
    try simp only [decide_eq_true_eq, decide_eq_false_iff_not, Bool.and_eq_true, Bool.or_eq_true, Bool.and_eq_false_iff, Bool.or_eq_false_iff, Bool.not_eq_true', Bool.not_eq_false', Bool.not_eq_true, Bool.not_eq_false, Int.not_lt, Int.not_le, Decidable.not_not, ne_eq] at hg2_35
    simp only [List.take]
    refine Hd.ng rfl rfl rfl ?_
    refine Hd.ng rfl rfl rfl ?_
    first | (refine Hd.yv (y_pickT rfl rfl) ?_) | (refine Hd.yv (y_pickF rfl rfl) ?_) | (refine Hd.yv (y_pickb rfl rfl rfl) ?_) | (refine Hd.yv (y_pick rfl rfl rfl) ?_)
    refine Hd.nil ?_
    exact Hd.mend (by repeat (first | exact trivial | refine ⟨rfl, ?_⟩)) (Ent.sep enn)
  · intro hg2_35
    try simp only [decide_eq_true_eq, decide_eq_false_iff_not, Bool.and_eq_true, Bool.or_eq_true, Bool.and_eq_false_iff, Bool.or_eq_false_iff, Bool.not_eq_true', Bool.not_eq_false', Bool.not_eq_true, Bool.not_eq_false, Int.not_lt, Int.not_le, Decidable.not_not, ne_eq] at hg2_35
    simp only [List.take]
    refine Hd.yg rfl rfl (y_move rfl) ?_
    refine Hd.yg rfl rfl (y_not rfl) ?_
    first | (refine Hd.yv (y_pickT rfl rfl) ?_) | (refine Hd.yv (y_pickF rfl rfl) ?_) | (refine Hd.yv (y_pickb rfl rfl rfl) ?_) | (refine Hd.yv (y_pick rfl rfl rfl) ?_)
    refine Hd.nil ?_
    exact Hd.mend (by repeat (first | exact trivial | refine ⟨rfl, ?_⟩)) (Ent.sep enn)
  simp only [List.drop]
  refine Hd.nil ?_
  refine Hd.slots [(2, _), (3, _), (4, _), (7, _), (38, _)] ⟨rfl, rfl, rfl, rfl, rfl, trivial⟩ ?_
  refine Hd.toK hK4 ?_
  refine Hd.cond rfl (fun hc0 => ?_) (fun hc0 => ?_)
  ·
    try simp only [decide_eq_true_eq, decide_eq_false_iff_not, Bool.and_eq_true, Bool.or_eq_true, Bool.and_eq_false_iff, Bool.or_eq_false_iff, Bool.not_eq_true', Bool.not_eq_false', Bool.not_eq_true, Bool.not_eq_false, Int.not_lt, Int.not_le, Decidable.not_not, ne_eq] at hc0
    refine Hd.seq (fun K5 hK5 => ?_)
    refine Hd.region ?_
    refine Hd.yv (y_move rfl) ?_
    refine Hd.yv (y_assign rfl) ?_
    refine Hd.nil ?_
    refine Hd.slots [(6, _)] ⟨rfl, trivial⟩ ?_
    refine Hd.toK hK5 ?_
    refine Hd.ret ?_
    refine Hd.thenRet ?_
    clear hK1 hK2 hK3 hK4 hK5
    exact Hd.ret1 rfl () (by first | rfl | (simp only [*]; done) | (simp [*]; done)) (Ent.sep enn)
  ·
    try simp only [decide_eq_true_eq, decide_eq_false_iff_not, Bool.and_eq_true, Bool.or_eq_true, Bool.and_eq_false_iff, Bool.or_eq_false_iff, Bool.not_eq_true', Bool.not_eq_false', Bool.not_eq_true, Bool.not_eq_false, Int.not_lt, Int.not_le, Decidable.not_not, ne_eq] at hc0
    have hgl : gaps.length ≤ 50 := by have := hc0; simp at this; omega
    refine Hd.skip ?_
    refine Hd.toK hK3 ?_
    refine Hd.seq (fun K6 hK6 => ?_)
    refine Hd.region ?_
    first | (refine Hd.yv (y_loadn (us := [_, _, _]) ag24 rfl (Rd.pt pkk (by (first | (intro j v e; rcases j with _|_|_|_|_|_|_|_|_|_|_|_|j <;> first | exact e | exact absurd e (by simp))))) (by exact sz24)) ?_) | (refine Hd.yv (y_loadn (us := [_, _, _]) ag24 rfl (Rd.seg pkk (by (first | (intro j v e; rcases j with _|_|_|_|_|_|_|_|_|_|_|_|j <;> first | exact e | exact absurd e (by simp))))) (by exact sz24)) ?_) | (refine Hd.yv (y_loadRn ag24 rfl (by (first | exact RdS.own pkk | exact RdS.mono hG (Ent.sep enn))) (by (first | (intro j v e; rcases j with _|_|_|_|_|_|_|_|_|_|_|_|j <;> first | exact e | exact absurd e (by simp)))) (by exact sz24) (by simp)) ?_)
    refine Hd.yv (y_build (vs := []) rfl (by first | exact bd5_42 .. | kernel_rfl)) ?_
    refine Hd.callE rfl fk17 (newg_ct _ (rts all r0) hB 0 in0) (Ent.sep enn) ?_
    rintro ⟨gb, gs⟩
    dsimp only
    refine Hd.yv (y_move rfl) ?_
    refine Hd.yv (y_to (v' := .pointer (some ⟨gb, 0, none⟩)) (y_extract rfl rfl) (by rfl)) ?_
    refine Hd.yv (y_to (v' := .int .i64 0) (y_extract rfl rfl) (by rfl)) ?_
    refine Hd.yv (y_assign rfl) ?_
    refine Hd.yv (y_assign rfl) ?_
    refine Hd.nil ?_
    refine Hd.pure (fun hgs => ?_)
    refine Hd.slots [(2, _), (3, _), (4, _), (7, _), (8, _), (9, _)] ⟨rfl, rfl, rfl, rfl, rfl, rfl, trivial⟩ ?_
    refine Hd.toK hK6 ?_
    refine Hd.seq (fun K7 hK7 => ?_)
    refine Hd.region ?_
    refine Hd.callE rfl fk23 (wnew_ct _) (Ent.sep enn) ?_
    intro wb
    refine Hd.yv (y_assign rfl) ?_
    refine Hd.nil ?_
    refine Hd.slots [(2, _), (3, _), (4, _), (7, _), (8, _), (9, _), (10, _)] ⟨rfl, rfl, rfl, rfl, rfl, rfl, rfl, trivial⟩ ?_
    refine Hd.toK hK7 ?_
    refine Hd.seq (fun K8 hK8 => ?_)
    refine Hd.region ?_
    refine Hd.yv (y_assign rfl) ?_
    refine Hd.nil ?_
    refine Hd.slots [(2, _), (3, _), (4, _), (7, _), (8, _), (9, _), (10, _), (11, _)] ⟨rfl, rfl, rfl, rfl, rfl, rfl, rfl, rfl, trivial⟩ ?_
    refine Hd.toK hK8 ?_
    refine Hd.seq (fun K9 hK9 => ?_)
    refine Hd.seq (fun K10 hK10 => ?_)
    refine Hd.region ?_
    refine Hd.yv (y_assign rfl) ?_
    refine Hd.nil ?_
    refine Hd.slots [(2, _), (3, _), (4, _), (7, _), (8, _), (9, _), (10, _), (11, _), (12, _)] ⟨rfl, rfl, rfl, rfl, rfl, rfl, rfl, rfl, rfl, trivial⟩ ?_
    refine Hd.toK hK10 ?_
    refine Hd.block ?_
    refine Hd.loopK (ι := Nat × (Nat → LrA) × Option Addr × Nat) [(2, _), (3, _), (4, _), (7, _), (8, _), (9, _), (10, _)] (fun q_ => [(11, .slice q_.2.2.1 q_.1 q_.2.2.2), (12, .int .i64 (q_.1 : Int))]) (fun q_ => pu (q_.1 ≤ 2 ∧ ∀ j, j < q_.1 → LrOk ow (q_.2.1 j)) :: FkP (LimF wb gb q_.2.1 (fun _ => oX ow) X0) q_.1 :: own 28 1 q_.2.2.1 q_.1 q_.2.2.2 (lps q_.2.1 q_.1) :: GrH gb ⟨gs, (q_.1 : Int)⟩ :: SlB (gs 0) (aX all 0) :: SlB (gs 1) (aX all 1) :: WorldP wb (Wk q_.1) :: pt b3 (encRt ow) 24 :: pt b4 (encRt all) 24 :: L) (fun q_ => 2 - q_.1) (0, fun _ => ⟨0, 0, noS⟩, none, 0) (by repeat (first | exact trivial | refine ⟨rfl, ?_⟩)) (by repeat (first | exact trivial | refine ⟨rfl, ?_⟩)) (fun q t => Ent.sep (.pure ⟨Nat.zero_le _, fun j hj => absurd hj (Nat.not_lt_zero j)⟩ (.pure trivial (.ownNil .same))) q (show sep (GrH gb ⟨gs, ((0 : Nat) : Int)⟩ :: SlB (gs 0) (aX all 0) :: SlB (gs 1) (aX all 1) :: WorldP wb (Wk 0) :: pt b3 (encRt ow) 24 :: pt b4 (encRt all) 24 :: L) q from Ent.sep (.eq pkk (pt_eq (by rfl)) (.pick pkk (.pick pkk (.eq pkk (show WorldP wb newA = WorldP wb (Wk 0) from rfl) enn)))) q t)) ?_
    rintro ⟨k, r, la, lc⟩
    try dsimp only
    refine Hd.pure (fun hp0 => ?_)
    try dsimp only at hp0
    refine Hd.seq (fun K11 hK11 => ?_)
    refine Hd.seq (fun K12 hK12 => ?_)
    refine Hd.region ?_
    refine Hd.yv (y_move rfl) ?_
    refine Hd.yv (y_lss rfl rfl) ?_
    refine Hd.nil ?_
    refine Hd.slots [(2, _), (3, _), (4, _), (7, _), (8, _), (9, _), (10, _), (11, _), (12, _), (48, _)] ⟨rfl, rfl, rfl, rfl, rfl, rfl, rfl, rfl, rfl, rfl, trivial⟩ ?_
    refine Hd.toK hK12 ?_
    refine Hd.cond rfl (fun hc1 => ?_) (fun hc1 => ?_)
    ·
      try simp only [decide_eq_true_eq, decide_eq_false_iff_not, Bool.and_eq_true, Bool.or_eq_true, Bool.and_eq_false_iff, Bool.or_eq_false_iff, Bool.not_eq_true', Bool.not_eq_false', Bool.not_eq_true, Bool.not_eq_false, Int.not_lt, Int.not_le, Decidable.not_not, ne_eq] at hc1
      obtain ⟨_, hr⟩ := hp0
      have hk : k < 2 := by omega
      refine Hd.skip ?_
      refine Hd.toK hK11 ?_
      refine Hd.seq (fun K13 hK13 => ?_)
      refine Hd.block ?_
      refine Hd.seq (fun K14 hK14 => ?_)
      refine Hd.region ?_
      refine Hd.yv (y_move rfl) ?_
      refine Hd.callE rfl fk24 (pair_ct _ wb (Wk k) 60000 (by decide) (by decide)) (Ent.sep enn) ?_
      intro _
      rw [show mkW (Wk k) 2 (halfW 60000 2) = Wk (k + 1) from rfl]
      refine Hd.nil ?_
      refine Hd.slots [(2, _), (3, _), (4, _), (7, _), (8, _), (9, _), (10, _), (11, _), (12, _)] ⟨rfl, rfl, rfl, rfl, rfl, rfl, rfl, rfl, rfl, trivial⟩ ?_
      refine Hd.toK hK14 ?_
      refine Hd.seq (fun K15 hK15 => ?_)
      refine Hd.region ?_
      refine Hd.yv (y_move rfl) ?_
      refine Hd.yv (y_move rfl) ?_
      first | (refine Hd.yv (y_muln rfl rfl (by simp only [InK]; omega)) ?_) | (refine Hd.yv (y_mul rfl rfl) ?_)
      refine Hd.callE rfl fk25 (bnew_ct _ wb (Wk (k + 1)) (2 * (k : Int)) (wk_op hk)) (Ent.sep enn) ?_
      intro b
      refine Hd.yv (y_move rfl) ?_
      refine Hd.yv (y_extract rfl rfl) ?_
      refine Hd.yv (y_extract rfl rfl) ?_
      refine Hd.yv (y_assign rfl) ?_
      refine Hd.yv (y_assign rfl) ?_
      refine Hd.nil ?_
      refine Hd.slots [(2, _), (3, _), (4, _), (7, _), (8, _), (9, _), (10, _), (11, _), (12, _), (13, _), (14, _)] ⟨rfl, rfl, rfl, rfl, rfl, rfl, rfl, rfl, rfl, rfl, rfl, trivial⟩ ?_
      refine Hd.toK hK15 ?_
      refine Hd.seq (fun K16 hK16 => ?_)
      refine Hd.region ?_
      refine Hd.yv (y_move rfl) ?_
      refine Hd.callE rfl fk22 (lnew_ct _ b) (Ent.sep enn) ?_
      intro lb
      refine Hd.yv (y_move rfl) ?_
      refine Hd.yv (y_to (v' := .pointer (some ⟨lb, 0, none⟩)) (y_extract rfl rfl) (by rfl)) ?_
      refine Hd.yv (y_extract rfl rfl) ?_
      refine Hd.yv (y_assign rfl) ?_
      refine Hd.yv (y_assign rfl) ?_
      refine Hd.nil ?_
      refine Hd.slots [(2, _), (3, _), (4, _), (7, _), (8, _), (9, _), (10, _), (11, _), (12, _), (13, _), (14, _), (15, _), (16, _)] ⟨rfl, rfl, rfl, rfl, rfl, rfl, rfl, rfl, rfl, rfl, rfl, rfl, rfl, trivial⟩ ?_
      refine Hd.toK hK16 ?_
      refine Hd.seq (fun K17 hK17 => ?_)
      refine Hd.seq (fun K18 hK18 => ?_)
      refine Hd.region ?_
      refine Hd.yv (y_move rfl) ?_
      refine Hd.yv (y_neq rfl rfl) ?_
      refine Hd.yv (y_move rfl) ?_
      apply Hd.org 3 67 70 [(2, _), (3, _), (4, _), (7, _), (8, _), (9, _), (10, _), (11, _), (12, _), (13, _), (15, _)] rfl ⟨rfl, rfl, rfl, rfl, rfl, rfl, rfl, rfl, rfl, rfl, rfl, trivial⟩
      · intro hg13_67
        try simp only [decide_eq_true_eq, decide_eq_false_iff_not, Bool.and_eq_true, Bool.or_eq_true, Bool.and_eq_false_iff, Bool.or_eq_false_iff, Bool.not_eq_true', Bool.not_eq_false', Bool.not_eq_true, Bool.not_eq_false, Int.not_lt, Int.not_le, Decidable.not_not, ne_eq] at hg13_67
        simp only [List.take]
        refine Hd.ng rfl rfl rfl ?_
        refine Hd.ng rfl rfl rfl ?_
        first | (refine Hd.yv (y_pickT rfl rfl) ?_) | (refine Hd.yv (y_pickF rfl rfl) ?_) | (refine Hd.yv (y_pickb rfl rfl rfl) ?_) | (refine Hd.yv (y_pick rfl rfl rfl) ?_)
        refine Hd.nil ?_
        exact Hd.mend (by repeat (first | exact trivial | refine ⟨rfl, ?_⟩)) (Ent.sep enn)
      · intro hg13_67
        try simp only [decide_eq_true_eq, decide_eq_false_iff_not, Bool.and_eq_true, Bool.or_eq_true, Bool.and_eq_false_iff, Bool.or_eq_false_iff, Bool.not_eq_true', Bool.not_eq_false', Bool.not_eq_true, Bool.not_eq_false, Int.not_lt, Int.not_le, Decidable.not_not, ne_eq] at hg13_67
        simp only [List.take]
        refine Hd.yg rfl rfl (y_move rfl) ?_
        refine Hd.yg rfl rfl (y_neq rfl rfl) ?_
        first | (refine Hd.yv (y_pickT rfl rfl) ?_) | (refine Hd.yv (y_pickF rfl rfl) ?_) | (refine Hd.yv (y_pickb rfl rfl rfl) ?_) | (refine Hd.yv (y_pick rfl rfl rfl) ?_)
        refine Hd.nil ?_
        exact Hd.mend (by repeat (first | exact trivial | refine ⟨rfl, ?_⟩)) (Ent.sep enn)
      simp only [List.drop]
      refine Hd.nil ?_
      refine Hd.slots [(2, _), (3, _), (4, _), (7, _), (8, _), (9, _), (10, _), (11, _), (12, _), (13, _), (15, _), (70, _)] ⟨rfl, rfl, rfl, rfl, rfl, rfl, rfl, rfl, rfl, rfl, rfl, rfl, trivial⟩ ?_
      refine Hd.toK hK18 ?_
      refine Hd.condF rfl ?_
      refine Hd.skip ?_
      refine Hd.toK hK17 ?_
      refine Hd.seq (fun K19 hK19 => ?_)
      refine Hd.region ?_
      refine Hd.yv (y_move rfl) ?_
      refine Hd.callE rfl fk26 (enable_ct _ b wb (newB (2 * (k : Int))) (tm_new _) 0 2 in0) (Ent.sep enn) ?_
      intro _
      refine Hd.nil ?_
      refine Hd.slots [(2, _), (3, _), (4, _), (7, _), (8, _), (9, _), (10, _), (11, _), (12, _), (15, _)] ⟨rfl, rfl, rfl, rfl, rfl, rfl, rfl, rfl, rfl, rfl, trivial⟩ ?_
      refine Hd.toK hK19 ?_
      refine Hd.seq (fun K20 hK20 => ?_)
      refine Hd.region ?_
      refine Hd.yv (y_move rfl) ?_
      first | (refine Hd.yv (y_loadn (us := [_, _, _]) ag24 rfl (Rd.pt pkk (by (first | (intro j v e; rcases j with _|_|_|_|_|_|_|_|_|_|_|_|j <;> first | exact e | exact absurd e (by simp))))) (by exact sz24)) ?_) | (refine Hd.yv (y_loadn (us := [_, _, _]) ag24 rfl (Rd.seg pkk (by (first | (intro j v e; rcases j with _|_|_|_|_|_|_|_|_|_|_|_|j <;> first | exact e | exact absurd e (by simp))))) (by exact sz24)) ?_) | (refine Hd.yv (y_loadRn ag24 rfl (by (first | exact RdS.own pkk | exact RdS.mono hG (Ent.sep enn))) (by (first | (intro j v e; rcases j with _|_|_|_|_|_|_|_|_|_|_|_|j <;> first | exact e | exact absurd e (by simp)))) (by exact sz24) (by simp)) ?_)
      refine Hd.yv (y_build (vs := []) rfl (by first | exact bd5_75 .. | kernel_rfl)) ?_
      refine Hd.callE rfl fk9 (lsetN_ct _ lb b (rts ow r0) 0 in0) (Ent.sep enn) ?_
      intro s
      refine Hd.pure (fun hs => ?_)
      rw [if_pos hO]
      refine Hd.yv (y_assign rfl) ?_
      refine Hd.nil ?_
      refine Hd.slots [(2, _), (3, _), (4, _), (7, _), (8, _), (9, _), (10, _), (11, _), (12, _), (15, _), (17, _)] ⟨rfl, rfl, rfl, rfl, rfl, rfl, rfl, rfl, rfl, rfl, rfl, trivial⟩ ?_
      refine Hd.toK hK20 ?_
      refine Hd.seq (fun K21 hK21 => ?_)
      refine Hd.region ?_
      refine Hd.yv (y_move rfl) ?_
      refine Hd.yv (y_move rfl) ?_
      refine Hd.callE rfl fk19 (join_ct _ lb gb ⟨b, s, none⟩ rfl ⟨gs, (k : Int)⟩ (by show (0 : Int) ≤ (k : Int); omega) (by show (k : Int) ≤ 1000; omega)) (Ent.sep enn) ?_
      intro _
      refine Hd.yv (y_assign rfl) ?_
      refine Hd.nil ?_
      refine Hd.slots [(2, _), (3, _), (4, _), (7, _), (8, _), (9, _), (10, _), (11, _), (12, _), (15, _), (17, _), (18, _)] ⟨rfl, rfl, rfl, rfl, rfl, rfl, rfl, rfl, rfl, rfl, rfl, rfl, trivial⟩ ?_
      refine Hd.toK hK21 ?_
      refine Hd.seq (fun K22 hK22 => ?_)
      refine Hd.seq (fun K23 hK23 => ?_)
      refine Hd.region ?_
      refine Hd.yv (y_move rfl) ?_
      refine Hd.yv (y_neq rfl rfl) ?_
      refine Hd.yv (y_move rfl) ?_
      apply Hd.org 3 82 85 [(2, _), (3, _), (4, _), (7, _), (8, _), (9, _), (10, _), (11, _), (12, _), (15, _), (17, _), (18, _)] rfl ⟨rfl, rfl, rfl, rfl, rfl, rfl, rfl, rfl, rfl, rfl, rfl, rfl, trivial⟩
      · intro hg18_82
        try simp only [decide_eq_true_eq, decide_eq_false_iff_not, Bool.and_eq_true, Bool.or_eq_true, Bool.and_eq_false_iff, Bool.or_eq_false_iff, Bool.not_eq_true', Bool.not_eq_false', Bool.not_eq_true, Bool.not_eq_false, Int.not_lt, Int.not_le, Decidable.not_not, ne_eq] at hg18_82
        simp only [List.take]
        refine Hd.ng rfl rfl rfl ?_
        refine Hd.ng rfl rfl rfl ?_
        first | (refine Hd.yv (y_pickT rfl rfl) ?_) | (refine Hd.yv (y_pickF rfl rfl) ?_) | (refine Hd.yv (y_pickb rfl rfl rfl) ?_) | (refine Hd.yv (y_pick rfl rfl rfl) ?_)
        refine Hd.nil ?_
        exact Hd.mend (by repeat (first | exact trivial | refine ⟨rfl, ?_⟩)) (Ent.sep enn)
      · intro hg18_82
        try simp only [decide_eq_true_eq, decide_eq_false_iff_not, Bool.and_eq_true, Bool.or_eq_true, Bool.and_eq_false_iff, Bool.or_eq_false_iff, Bool.not_eq_true', Bool.not_eq_false', Bool.not_eq_true, Bool.not_eq_false, Int.not_lt, Int.not_le, Decidable.not_not, ne_eq] at hg18_82
        simp only [List.take]
        refine Hd.yg rfl rfl (y_move rfl) ?_
        refine Hd.yg rfl rfl (y_neq rfl rfl) ?_
        first | (refine Hd.yv (y_pickT rfl rfl) ?_) | (refine Hd.yv (y_pickF rfl rfl) ?_) | (refine Hd.yv (y_pickb rfl rfl rfl) ?_) | (refine Hd.yv (y_pick rfl rfl rfl) ?_)
        refine Hd.nil ?_
        exact Hd.mend (by repeat (first | exact trivial | refine ⟨rfl, ?_⟩)) (Ent.sep enn)
      simp only [List.drop]
      refine Hd.yv (y_move rfl) ?_
      apply Hd.org 3 86 89 [(2, _), (3, _), (4, _), (7, _), (8, _), (9, _), (10, _), (11, _), (12, _), (15, _), (17, _)] rfl ⟨rfl, rfl, rfl, rfl, rfl, rfl, rfl, rfl, rfl, rfl, rfl, trivial⟩
      · intro hg18_86
        try simp only [decide_eq_true_eq, decide_eq_false_iff_not, Bool.and_eq_true, Bool.or_eq_true, Bool.and_eq_false_iff, Bool.or_eq_false_iff, Bool.not_eq_true', Bool.not_eq_false', Bool.not_eq_true, Bool.not_eq_false, Int.not_lt, Int.not_le, Decidable.not_not, ne_eq] at hg18_86
        simp only [List.take]
        refine Hd.ng rfl rfl rfl ?_
        refine Hd.ng rfl rfl rfl ?_
        first | (refine Hd.yv (y_pickT rfl rfl) ?_) | (refine Hd.yv (y_pickF rfl rfl) ?_) | (refine Hd.yv (y_pickb rfl rfl rfl) ?_) | (refine Hd.yv (y_pick rfl rfl rfl) ?_)
        refine Hd.nil ?_
        exact Hd.mend (by repeat (first | exact trivial | refine ⟨rfl, ?_⟩)) (Ent.sep enn)
      · intro hg18_86
        try simp only [decide_eq_true_eq, decide_eq_false_iff_not, Bool.and_eq_true, Bool.or_eq_true, Bool.and_eq_false_iff, Bool.or_eq_false_iff, Bool.not_eq_true', Bool.not_eq_false', Bool.not_eq_true, Bool.not_eq_false, Int.not_lt, Int.not_le, Decidable.not_not, ne_eq] at hg18_86
        simp only [List.take]
        refine Hd.yg rfl rfl (y_move rfl) ?_
        refine Hd.yg rfl rfl (y_neq rfl rfl) ?_
        first | (refine Hd.yv (y_pickT rfl rfl) ?_) | (refine Hd.yv (y_pickF rfl rfl) ?_) | (refine Hd.yv (y_pickb rfl rfl rfl) ?_) | (refine Hd.yv (y_pick rfl rfl rfl) ?_)
        refine Hd.nil ?_
        exact Hd.mend (by repeat (first | exact trivial | refine ⟨rfl, ?_⟩)) (Ent.sep enn)
      simp only [List.drop]
      refine Hd.nil ?_
      refine Hd.slots [(2, _), (3, _), (4, _), (7, _), (8, _), (9, _), (10, _), (11, _), (12, _), (15, _), (17, _), (89, _)] ⟨rfl, rfl, rfl, rfl, rfl, rfl, rfl, rfl, rfl, rfl, rfl, rfl, trivial⟩ ?_
      refine Hd.toK hK23 ?_
      refine Hd.condF rfl ?_
      refine Hd.skip ?_
      refine Hd.toK hK22 ?_
      refine Hd.region ?_
      refine Hd.yv (y_move rfl) ?_
      refine Hd.yv (y_move rfl) ?_
      refine Hd.bslice (vs := [(0, _)]) rfl (by first | exact bs5_101 .. | kernel_rfl) (fun b101 => ?_)
      refine Hd.append Tryd.underlying59 ty28 rfl rfl rfl pkk (by first | exact RdS.rd (Rd.pt pkk (fun j v e => by simpa using e)) rfl | (first | exact RdS.own pkk | exact RdS.mono hG (Ent.sep enn))) (by first | (simp [Value.oneCell']; done) | assumption) (by first | (simp only [maxLen]; omega) | assumption) (by omega) (fun ad102 cap102 => ?_)
      refine Hd.yv (y_assign rfl) ?_
      refine Hd.nil ?_
      refine Hd.slots [(2, _), (3, _), (4, _), (7, _), (8, _), (9, _), (10, _), (11, _), (12, _)] ⟨rfl, rfl, rfl, rfl, rfl, rfl, rfl, rfl, rfl, trivial⟩ ?_
      refine Hd.inB ?_
      refine Hd.toK hK13 ?_
      refine Hd.region ?_
      refine Hd.yv (y_move rfl) ?_
      first | (refine Hd.yv (y_addn rfl rfl (by simp only [InK]; omega)) ?_) | (refine Hd.yv (y_add rfl rfl) ?_)
      refine Hd.yv (y_assign rfl) ?_
      refine Hd.nil ?_
      refine Hd.slots [(2, _), (3, _), (4, _), (7, _), (8, _), (9, _), (10, _), (11, _), (12, _)] ⟨rfl, rfl, rfl, rfl, rfl, rfl, rfl, rfl, rfl, trivial⟩ ?_
      clear hK1 hK2 hK3 hK4 hK6 hK7 hK8 hK9 hK10 hK11 hK12 hK13 hK14 hK15 hK16 hK17 hK18 hK19 hK20 hK21 hK22 hK23
      refine Hd.thenN ?_
      have hrk : LrOk ow ⟨lb, b, s⟩ := ⟨by have := hs 0 (by decide); rw [hO] at this; exact this, by have := hs 1 (by decide); rw [hO] at this; exact this⟩
      refine Hd.again (k + 1, rU r k ⟨lb, b, s⟩, ad102, cap102) (by simp only; omega) (by repeat (first | exact trivial | refine ⟨rfl, ?_⟩)) (fun q t => ?_)
      have t1 : sep (LmH lb ⟨b, s, some gb⟩ :: SlB (s 0) (oX ow 0) :: SlB (s 1) (oX ow 1) :: BufP b wb (X0 k) :: FkP (LimF wb gb r (fun _ => oX ow) X0) k :: own 28 1 ad102 (k + 1) cap102 (lps (rU r k ⟨lb, b, s⟩) (k + 1)) :: GrH gb ⟨gs, ((k + 1 : Nat) : Int)⟩ :: SlB (gs 0) (aX all 0) :: SlB (gs 1) (aX all 1) :: WorldP wb (Wk (k + 1)) :: pt b3 (encRt ow) 24 :: pt b4 (encRt all) 24 :: L) q := by
        rw [lps_succ]
        exact Ent.sep (.pick pkk (.pick pkk (.pick pkk (.pick pkk (.pick pkk (.pick pkk (.eq pkk (pt_eq (by rfl)) enn))))))) q t
      have t2 := lim_in (r := ⟨lb, b, s⟩) q t1
      have t3 := fk_in (f := LimF wb gb r (fun _ => oX ow) X0) (g := LimF wb gb (rU r k ⟨lb, b, s⟩) (fun _ => oX ow) X0) (k := k) (fun j hj => by show LimP wb gb (rU r k ⟨lb, b, s⟩ j) _ _ = _; rw [rU_ne _ _ (by omega)]) q (by
        show sep (_ :: LimP wb gb (rU r k ⟨lb, b, s⟩ k) (oX ow) (X0 k) :: _) q
        rw [rU_at]
        exact Ent.sep (.pick (.there .here) (.pick .here .same)) q t2)
      exact Ent.sep (.pure ⟨by show k + 1 ≤ 2; omega, fun j hj => by
        by_cases e : j = k
        · subst e; show LrOk ow (rU r j ⟨lb, b, s⟩ j); rw [rU_at]; exact hrk
        · show LrOk ow (rU r k ⟨lb, b, s⟩ j); rw [rU_ne _ _ e]; exact hr j (by have : j < k + 1 := hj; omega)⟩ .same) q t3
    ·
      try simp only [decide_eq_true_eq, decide_eq_false_iff_not, Bool.and_eq_true, Bool.or_eq_true, Bool.and_eq_false_iff, Bool.or_eq_false_iff, Bool.not_eq_true', Bool.not_eq_false', Bool.not_eq_true, Bool.not_eq_false, Int.not_lt, Int.not_le, Decidable.not_not, ne_eq] at hc1
      obtain rfl : k = 2 := by omega
      have hr0 := hp0.2 0 (by decide)
      have hr1 := hp0.2 1 (by decide)
      have hr : ∀ j, j < 2 → LrOk ow (r j) := hp0.2
      have hgs0 : (gs 0).isSome = !rz all := hgs 0 (by decide)
      have hst : LbO ow all 0 [] [] (fun _ => oX ow) (aX all) := lb_start (fun _ => gv_con (fun _ => dum_ok) in0 hO (rts_far _ _)) (gv_con (fun _ => dum_ok) in0 hB (rts_far _ _)) (fun _ => by show (gvX noS dmX 0 (rts ow r0) 0).clk = 0; unfold gvX; split; rfl; rfl) (by show (gvX noS dmX 0 (rts all r0) 0).clk = 0; unfold gvX; split; rfl; rfl) (fun ho _ => by
        show (gvX noS dmX 0 (rts ow r0) 0).r = ow
        unfold gvX
        rw [if_neg (by show ¬ rz ow = true; rw [rz_no ho]; simp)]; rfl) (fun ho => by
        show (gvX noS dmX 0 (rts all r0) 0).r = all
        unfold gvX
        rw [if_neg (by show ¬ rz all = true; rw [rz_no ho]; simp)]; rfl)
      refine Hd.exit ?_
      refine Hd.thenExit ?_
      refine Hd.thenExit ?_
      refine Hd.inBexit ?_
      refine Hd.toK hK9 ?_
      refine Hd.seq (fun K24 hK24 => ?_)
      refine Hd.heap (LimF wb gb r (fun _ => oX ow) X0 0 :: LimF wb gb r (fun _ => oX ow) X0 1 :: own 28 1 la 2 lc (lps r 2) :: GrH gb ⟨gs, 2⟩ :: SlB (gs 0) (aX all 0) :: SlB (gs 1) (aX all 1) :: WorldP wb (Wk 2) :: pt b3 (encRt ow) 24 :: pt b4 (encRt all) 24 :: L) (fun q t => fk_two (f := LimF wb gb r (fun _ => oX ow) X0) q (Ent.sep (.pick pkk (.pick pkk (.eq pkk (pt_eq (by rfl)) enn))) q t)) ?_
      refine Hd.region ?_
      refine Hd.yv (y_assign rfl) ?_
      refine Hd.nil ?_
      refine Hd.slots [(2, _), (3, _), (4, _), (7, _), (10, _), (11, _), (19, _)] ⟨rfl, rfl, rfl, rfl, rfl, rfl, rfl, trivial⟩ ?_
      refine Hd.toK hK24 ?_
      refine Hd.seq (fun K25 hK25 => ?_)
      refine Hd.region ?_
      refine Hd.yv (y_assign rfl) ?_
      refine Hd.nil ?_
      refine Hd.slots [(2, _), (3, _), (4, _), (7, _), (10, _), (11, _), (19, _), (20, _)] ⟨rfl, rfl, rfl, rfl, rfl, rfl, rfl, rfl, trivial⟩ ?_
      refine Hd.toK hK25 ?_
      refine Hd.seq (fun K26 hK26 => ?_)
      refine Hd.region ?_
      refine Hd.yv (y_assign rfl) ?_
      refine Hd.nil ?_
      refine Hd.slots [(2, _), (3, _), (4, _), (7, _), (10, _), (11, _), (19, _), (20, _), (21, _)] ⟨rfl, rfl, rfl, rfl, rfl, rfl, rfl, rfl, rfl, trivial⟩ ?_
      refine Hd.toK hK26 ?_
      refine Hd.seq (fun K27 hK27 => ?_)
      refine Hd.seq (fun K28 hK28 => ?_)
      refine Hd.region ?_
      refine Hd.yv (y_assign rfl) ?_
      refine Hd.nil ?_
      refine Hd.slots [(2, _), (3, _), (4, _), (7, _), (10, _), (11, _), (19, _), (20, _), (21, _), (22, _)] ⟨rfl, rfl, rfl, rfl, rfl, rfl, rfl, rfl, rfl, rfl, trivial⟩ ?_
      refine Hd.toK hK28 ?_
      refine Hd.block ?_
      refine Hd.loopK (ι := Nat × Int × (Nat → Nat → BkA) × (Nat → BkA) × (Nat → BfA) × WA × List Int × List (Int × Int) × Option Addr × Nat × Option Addr × Nat) [(2, _), (3, _), (4, _), (7, _), (10, _), (11, _)] (fun q_ => [(19, .int .u64 q_.2.1), (20, .slice q_.2.2.2.2.2.2.2.2.1 q_.1 q_.2.2.2.2.2.2.2.2.2.1), (21, .slice q_.2.2.2.2.2.2.2.2.2.2.1 q_.1 q_.2.2.2.2.2.2.2.2.2.2.2), (22, .int .i64 (q_.1 : Int))]) (fun q_ => pu ((q_.1 ≤ gaps.length ∧ q_.2.2.2.2.2.2.1.length = q_.1 ∧ 0 ≤ q_.2.1 ∧ q_.2.1 ≤ 65535 * (q_.1 : Int)) ∧ (∀ j, BOk (q_.2.2.2.2.1 j)) ∧ LbO ow all q_.2.1 q_.2.2.2.2.2.2.1 q_.2.2.2.2.2.2.2.1 q_.2.2.1 q_.2.2.2.1) :: LimF wb gb r q_.2.2.1 q_.2.2.2.2.1 0 :: LimF wb gb r q_.2.2.1 q_.2.2.2.2.1 1 :: own 28 1 la 2 lc (lps r 2) :: GrH gb ⟨gs, 2⟩ :: SlB (gs 0) (q_.2.2.2.1 0) :: SlB (gs 1) (q_.2.2.2.1 1) :: WorldP wb q_.2.2.2.2.2.1 :: own 22 1 q_.2.2.2.2.2.2.2.2.1 q_.1 q_.2.2.2.2.2.2.2.2.2.1 (q_.2.2.2.2.2.2.1.map (Value.int .u64)) :: own 67 2 q_.2.2.2.2.2.2.2.2.2.2.1 q_.1 q_.2.2.2.2.2.2.2.2.2.2.2 (q_.2.2.2.2.2.2.2.1.flatMap encP) :: pt b3 (encRt ow) 24 :: pt b4 (encRt all) 24 :: L) (fun q_ => gaps.length - q_.1) (0, 0, fun _ => oX ow, aX all, X0, Wk 2, [], [], none, 0, none, 0) (by repeat (first | exact trivial | refine ⟨rfl, ?_⟩)) (by repeat (first | exact trivial | refine ⟨rfl, ?_⟩)) (fun q t => Ent.sep (.pure ⟨⟨Nat.zero_le _, rfl, Int.le_refl _, by show (0 : Int) ≤ 65535 * ((0 : Nat) : Int); omega⟩, x0_ok, hst⟩ (.pick pkk (.pick pkk (.pick pkk (.pick pkk (.pick pkk (.pick pkk (.pick pkk (.ownNil (.ownNil enn)))))))))) q t) ?_
      rintro ⟨i, now, x, y, X, w, AT, TK, aa, ac, ta, tc⟩
      try dsimp only
      refine Hd.pure (fun hp1 => ?_)
      try dsimp only at hp1
      refine Hd.seq (fun K29 hK29 => ?_)
      refine Hd.seq (fun K30 hK30 => ?_)
      refine Hd.region ?_
      refine Hd.yv (y_move rfl) ?_
      refine Hd.yv (y_move rfl) ?_
      refine Hd.yv (y_len Tryd.underlying57 rfl) ?_
      refine Hd.yv (y_lss rfl rfl) ?_
      refine Hd.nil ?_
      refine Hd.slots [(2, _), (3, _), (4, _), (7, _), (10, _), (11, _), (19, _), (20, _), (21, _), (22, _), (106, _)] ⟨rfl, rfl, rfl, rfl, rfl, rfl, rfl, rfl, rfl, rfl, rfl, trivial⟩ ?_
      refine Hd.toK hK30 ?_
      refine Hd.cond rfl (fun hc4 => ?_) (fun hc4 => ?_)
      ·
        try simp only [decide_eq_true_eq, decide_eq_false_iff_not, Bool.and_eq_true, Bool.or_eq_true, Bool.and_eq_false_iff, Bool.or_eq_false_iff, Bool.not_eq_true', Bool.not_eq_false', Bool.not_eq_true, Bool.not_eq_false, Int.not_lt, Int.not_le, Decidable.not_not, ne_eq] at hc4
        obtain ⟨⟨_, hal, hnow0, hnow1⟩, hX, hI⟩ := hp1
        have hi : i < gaps.length := by omega
        have hgi : (gaps.map fun y => Value.int .u16 y)[i * 1]? = some (.int .u16 gaps[i]) := by rw [Nat.mul_one, List.getElem?_map, List.getElem?_eq_getElem hi]; rfl
        have hgk := hgv gaps[i] (List.getElem_mem hi)
        simp only [InK] at hgk
        obtain ⟨nw, hnw⟩ : ∃ nw, now + gaps[i] = nw := ⟨_, rfl⟩
        have hle : now ≤ nw := by omega
        have hnb : nw ≤ 65535 * ((i + 1 : Nat) : Int) := by omega
        have hnk : InK .u64 nw := by simp only [InK]; omega
        refine Hd.skip ?_
        refine Hd.toK hK29 ?_
        refine Hd.seq (fun K31 hK31 => ?_)
        refine Hd.block ?_
        refine Hd.seq (fun K32 hK32 => ?_)
        refine Hd.region ?_
        refine Hd.yv (y_move rfl) ?_
        refine Hd.yv (y_move rfl) ?_
        refine Hd.yv (y_move rfl) ?_
        first | (refine Hd.yv (y_idxS Tryd.underlying57 sz25 rfl rfl (by first | omega | decide)) ?_) | (refine Hd.yv (y_idxR Tryd.underlying57 sz25 rfl rfl (by first | omega | decide) (by (first | exact RdS.own pkk | exact RdS.mono hG (Ent.sep enn)))) ?_)
        refine Hd.yv (y_loadR1 ag25 rfl (RdS.mono hG (Ent.sep enn)) hgi) ?_
        first | (refine Hd.yv (y_convn rfl Tryd.underlying25 Tryd.underlying22 (by simp only [InK]; omega)) ?_) | (refine Hd.yv (y_conv rfl Tryd.underlying25 Tryd.underlying22) ?_)
        first | (refine Hd.yv (y_to (v' := .int .u64 nw) (y_addn rfl rfl (by simp only [InK]; omega)) (by (rw [← hnw]))) ?_) | (refine Hd.yv (y_to (v' := .int .u64 nw) (y_add rfl rfl) (by (rw [← hnw]))) ?_)
        refine Hd.yv (y_assign rfl) ?_
        refine Hd.nil ?_
        refine Hd.slots [(2, _), (3, _), (4, _), (7, _), (10, _), (11, _), (19, _), (20, _), (21, _), (22, _)] ⟨rfl, rfl, rfl, rfl, rfl, rfl, rfl, rfl, rfl, rfl, trivial⟩ ?_
        refine Hd.toK hK32 ?_
        refine Hd.seq (fun K33 hK33 => ?_)
        refine Hd.region ?_
        refine Hd.alloc zr67 (fun b23 => ?_)
        refine Hd.nil ?_
        refine Hd.slots [(2, _), (3, _), (4, _), (7, _), (10, _), (11, _), (19, _), (20, _), (21, _), (22, _), (23, _)] ⟨rfl, rfl, rfl, rfl, rfl, rfl, rfl, rfl, rfl, rfl, rfl, trivial⟩ ?_
        refine Hd.toK hK33 ?_
        refine Hd.seq (fun K34 hK34 => ?_)
        refine Hd.seq (fun K35 hK35 => ?_)
        refine Hd.region ?_
        refine Hd.yv (y_assign rfl) ?_
        refine Hd.nil ?_
        refine Hd.slots [(2, _), (3, _), (4, _), (7, _), (10, _), (11, _), (19, _), (20, _), (21, _), (22, _), (23, _), (24, _)] ⟨rfl, rfl, rfl, rfl, rfl, rfl, rfl, rfl, rfl, rfl, rfl, rfl, trivial⟩ ?_
        refine Hd.toK hK35 ?_
        refine Hd.block ?_
        refine Hd.loopK (ι := Nat × (Nat → Int) × (Nat → Nat → BkA) × (Nat → BkA) × (Nat → BfA) × WA) [(2, _), (3, _), (4, _), (7, _), (10, _), (11, _), (19, _), (20, _), (21, _), (22, _), (23, _)] (fun q_ => [(24, .int .i64 (q_.1 : Int))]) (fun q_ => pu (q_.1 ≤ 2 ∧ (∀ j, BOk (q_.2.2.2.2.1 j)) ∧ LbM ow all nw AT TK q_.1 q_.2.1 q_.2.2.1 q_.2.2.2.1) :: LimF wb gb r q_.2.2.1 q_.2.2.2.2.1 0 :: LimF wb gb r q_.2.2.1 q_.2.2.2.2.1 1 :: own 28 1 la 2 lc (lps r 2) :: GrH gb ⟨gs, 2⟩ :: SlB (gs 0) (q_.2.2.2.1 0) :: SlB (gs 1) (q_.2.2.2.1 1) :: WorldP wb q_.2.2.2.2.2 :: own 22 1 aa i ac (AT.map (Value.int .u64)) :: own 67 2 ta i tc (TK.flatMap encP) :: pt b23 [.int .i64 (q_.2.1 0), .int .i64 (q_.2.1 1)] 67 :: pt b3 (encRt ow) 24 :: pt b4 (encRt all) 24 :: L) (fun q_ => 2 - q_.1) (0, fun _ => 0, x, y, X, w) (by repeat (first | exact trivial | refine ⟨rfl, ?_⟩)) (by repeat (first | exact trivial | refine ⟨rfl, ?_⟩)) (Ent.sep (.pure ⟨Nat.zero_le _, hX, hI.m.later hle (fun _ => ⟨Int.le_refl _, by show (0 : Int) ≤ 4096; decide⟩)⟩ enn)) ?_
        rintro ⟨k, n, x2, y2, X2, w2⟩
        try dsimp only
        refine Hd.pure (fun hp2 => ?_)
        try dsimp only at hp2
        refine Hd.seq (fun K36 hK36 => ?_)
        refine Hd.seq (fun K37 hK37 => ?_)
        refine Hd.region ?_
        refine Hd.yv (y_move rfl) ?_
        refine Hd.yv (y_lss rfl rfl) ?_
        refine Hd.nil ?_
        refine Hd.slots [(2, _), (3, _), (4, _), (7, _), (10, _), (11, _), (19, _), (20, _), (21, _), (22, _), (23, _), (24, _), (117, _)] ⟨rfl, rfl, rfl, rfl, rfl, rfl, rfl, rfl, rfl, rfl, rfl, rfl, rfl, trivial⟩ ?_
        refine Hd.toK hK37 ?_
        refine Hd.cond rfl (fun hc5 => ?_) (fun hc5 => ?_)
        ·
          try simp only [decide_eq_true_eq, decide_eq_false_iff_not, Bool.and_eq_true, Bool.or_eq_true, Bool.and_eq_false_iff, Bool.or_eq_false_iff, Bool.not_eq_true', Bool.not_eq_false', Bool.not_eq_true, Bool.not_eq_false, Int.not_lt, Int.not_le, Decidable.not_not, ne_eq] at hc5
          obtain ⟨_, hX2, hM⟩ := hp2
          have hk : k < 2 := by omega
          have hrk := hr k hk
          have hlk := lps_at r hk
          refine Hd.skip ?_
          refine Hd.toK hK36 ?_
          refine Hd.seq (fun K38 hK38 => ?_)
          refine Hd.block ?_
          refine Hd.seq (fun K39 hK39 => ?_)
          refine Hd.region ?_
          refine Hd.yv (y_move rfl) ?_
          refine Hd.yv (y_move rfl) ?_
          first | (refine Hd.yv (y_muln rfl rfl (by simp only [InK]; omega)) ?_) | (refine Hd.yv (y_mul rfl rfl) ?_)
          first | (refine Hd.yv (y_addn rfl rfl (by simp only [InK]; omega)) ?_) | (refine Hd.yv (y_add rfl rfl) ?_)
          refine Hd.mkslice (m := 5000) (cap := 5000) Tryd.underlying35 ty5 zr5 rfl rfl rfl rfl (by decide) (by decide) (by decide) (fun b124 cs124 hcs124 => ?_)
          obtain ⟨ys, hy, hyl⟩ : ∃ ys : List UInt8, cs124 = bsl ys ∧ ys.length = 5000 := ⟨List.replicate 5000 0, by rw [hcs124]; exact noughts_cells 5000, List.length_replicate⟩
          clear hcs124
          subst hy
          refine Hd.ptOwn (b := b124) (m := 5000) pkk (by rw [List.length_map, hyl]) (by decide) ?_
          obtain ⟨w3, hw3⟩ : ∃ w3, (writeR w2 (2 * (k : Int) + 1) ys).2 = w3 := ⟨_, rfl⟩
          obtain ⟨σ, hσ⟩ : ∃ σ, lsS ⟨(r k).b, (r k).s, some gb⟩ ⟨gs, 2⟩ (x2 k) y2 (X2 k) w3 nw 2 = σ := ⟨_, rfl⟩
          have hCk : ConOk (x2 k) y2 := ⟨hM.hx k, hM.hy⟩
          have hlv := lvS_in ((r k).s 0) (gs 0) (cmA nw (x2 k) 0) (cmA nw y2 0)
          obtain ⟨hX3, ht0, ht1, ht2, ht3, ht4⟩ : BOk σ.x ∧ 0 ≤ σ.t.i ∧ σ.t.i ≤ max 0 (lvS ((r k).s 0) (gs 0) (cmA nw (x2 k) 0) (cmA nw y2 0)) ∧ σ.t.i ≤ 4096 ∧ 0 ≤ σ.t.o ∧ σ.t.o ≤ 4096 := by
            rw [← hσ]
            exact ⟨bok_step (hX2 k) hnk w3 _ _ _, step_io _ _ _ _ _ _⟩
          have hM2 := hM.step hk hnk σ.t ht0 ht2 (fun ho => by
            have hs := hrk.s0
            rw [rz_no ho] at hs
            have := lv_x (gs := gs 0) (Y := cmA nw y2 0) ((cmA_ok hCk.x hnk) 0) hs
            have e : (come (x2 k 0) nw).have_ = (cmA nw (x2 k) 0).have_ := rfl
            omega) (fun ho => by
            have hs := hgs0
            rw [rz_no ho] at hs
            have := lv_y (s := (r k).s 0) (X := cmA nw (x2 k) 0) ((cmA_ok hCk.y hnk) 0) hs
            have e : (come (y2 0) nw).have_ = (cmA nw y2 0).have_ := rfl
            omega)
          refine Hd.callE rfl fk10 (wwrite_ct _ wb w2 (2 * (k : Int) + 1) (some ⟨b124, 0, none⟩) 5000 5000 ys hyl ?hD (by decide) (Nat.le_refl _)) (Ent.sep enn) ?_
          case hD => exact RdS.own pkk
          intro _
          rw [hw3]
          refine Hd.nil ?_
          refine Hd.slots [(2, _), (3, _), (4, _), (7, _), (10, _), (11, _), (19, _), (20, _), (21, _), (22, _), (23, _), (24, _)] ⟨rfl, rfl, rfl, rfl, rfl, rfl, rfl, rfl, rfl, rfl, rfl, rfl, trivial⟩ ?_
          refine Hd.toK hK39 ?_
          refine Hd.seq (fun K40 hK40 => ?_)
          refine Hd.heap (LgL (r k).lb ⟨(r k).b, (r k).s, some gb⟩ ⟨gs, 2⟩ (x2 k) y2 (BufP (r k).b wb (X2 k) :: LimF wb gb r x2 X2 (1 - k) :: own 28 1 la 2 lc (lps r 2) :: WorldP wb w3 :: own 22 1 aa i ac (AT.map (Value.int .u64)) :: own 67 2 ta i tc (TK.flatMap encP) :: pt b23 [.int .i64 (n 0), .int .i64 (n 1)] 67 :: pt b3 (encRt ow) 24 :: pt b4 (encRt all) 24 :: L)) (fun q t => ?_) ?_
          · have t1 : sep (LimF wb gb r x2 X2 0 :: LimF wb gb r x2 X2 1 :: GrH gb ⟨gs, 2⟩ :: SlB (gs 0) (y2 0) :: SlB (gs 1) (y2 1) :: own 28 1 la 2 lc (lps r 2) :: WorldP wb w3 :: own 22 1 aa i ac (AT.map (Value.int .u64)) :: own 67 2 ta i tc (TK.flatMap encP) :: pt b23 [.int .i64 (n 0), .int .i64 (n 1)] 67 :: pt b3 (encRt ow) 24 :: pt b4 (encRt all) 24 :: L) q := Ent.sep enn q t
            have t2 := two_k (f := LimF wb gb r x2 X2) hk q t1
            refine lim_open (r := r k) (G := ⟨gs, 2⟩) q ?_
            exact Ent.sep (.pick .here (.pick (.there .here) (.pick (.there .here) (.pick (.there .here) .same)))) q t2
          refine Hd.region ?_
          refine Hd.yv (y_move rfl) ?_
          refine Hd.yv (y_move rfl) ?_
          first | (refine Hd.yv (y_idxS Tryd.underlying59 sz28 rfl rfl (by first | omega | decide)) ?_) | (refine Hd.yv (y_idxR Tryd.underlying59 sz28 rfl rfl (by first | omega | decide) (by (first | exact RdS.own pkk | exact RdS.mono hG (Ent.sep enn)))) ?_)
          refine Hd.yv (y_loadR1 ag28 rfl (RdS.own (ad := la) (us := lps r 2) pkk) hlk) ?_
          refine Hd.yv (y_move rfl) ?_
          refine Hd.callE rfl fk11 (lstep_ct _ (r k).lb wb ⟨(r k).b, (r k).s, some gb⟩ ⟨gs, 2⟩ (x2 k) y2 hCk (X2 k) (hX2 k) w3 nw 2 hnk ?hF σ hσ (by simp only [InK]; omega) (by simp only [InK]; omega)) (Ent.sep enn) ?_
          case hF => exact Rd.mono hF (Ent.sep enn)
          intro _
          refine Hd.alloc zr37 (fun b25 => ?_)
          refine Hd.storeA (us := encT σ.t) sz37 rfl rfl rfl (by simp [Value.oneCell']) pkk (by exact rfl) ?_
          refine Hd.nil ?_
          refine Hd.slots [(2, _), (3, _), (4, _), (7, _), (10, _), (11, _), (19, _), (20, _), (21, _), (22, _), (23, _), (24, _), (25, _)] ⟨rfl, rfl, rfl, rfl, rfl, rfl, rfl, rfl, rfl, rfl, rfl, rfl, rfl, trivial⟩ ?_
          refine Hd.toK hK40 ?_
          refine Hd.seq (fun K41 hK41 => ?_)
          refine Hd.region ?_
          refine Hd.yv (y_move rfl) ?_
          refine Hd.yv (y_move rfl) ?_
          first | (refine Hd.yv (y_idxS Tryd.underlying59 sz28 rfl rfl (by first | omega | decide)) ?_) | (refine Hd.yv (y_idxR Tryd.underlying59 sz28 rfl rfl (by first | omega | decide) (by (first | exact RdS.own pkk | exact RdS.mono hG (Ent.sep enn)))) ?_)
          refine Hd.yv (y_loadR1 ag28 rfl (RdS.own (ad := la) (us := lps r 2) pkk) hlk) ?_
          refine Hd.callE rfl fk12 (lbuf_ct _ (r k).lb ⟨(r k).b, (r k).s, some gb⟩) (Ent.sep enn) ?_
          intro _
          refine Hd.callE rfl fk13 (bread_ct _ (r k).b wb σ.x 9000 (by decide)) (Ent.sep enn) ?_
          rintro ⟨a5, c5⟩
          dsimp only
          refine Hd.nil ?_
          refine Hd.slots [(2, _), (3, _), (4, _), (7, _), (10, _), (11, _), (19, _), (20, _), (21, _), (22, _), (23, _), (24, _), (25, _)] ⟨rfl, rfl, rfl, rfl, rfl, rfl, rfl, rfl, rfl, rfl, rfl, rfl, rfl, trivial⟩ ?_
          refine Hd.toK hK41 ?_
          refine Hd.region ?_
          refine Hd.yv (y_move rfl) ?_
          first | (refine Hd.yv (y_field' (q := 4) (ft := 3) Tryd.underlying37 rfl sz3 rfl rfl) ?_) | (refine Hd.yv (y_fieldR (q := 4) (ft := 3) Tryd.underlying37 rfl sz3 rfl rfl) ?_)
          first | (refine Hd.yv (y_load1 ag3 rfl (Rd.pt1 pkk (by (first | rfl)))) ?_) | (refine Hd.yv (y_load1 ag3 rfl (Rd.seg1 pkk (by (first | rfl)))) ?_) | (refine Hd.yv (y_loadR1 ag3 rfl (by (first | exact RdS.own pkk | exact RdS.mono hG (Ent.sep enn))) (by (first | rfl))) ?_)
          refine Hd.yv (y_idxA Tryd.underlying67 sz2 rfl rfl (by first | omega | decide)) ?_
          first | (refine Hd.store1 sz2 rfl rfl rfl pkk (by first | decide | (simp; done) | (simp; omega)) ?_) | (refine Hd.storeG1 sz2 rfl rfl rfl pkk (by first | decide | (simp; done) | (simp; omega)) ?_) | (refine Hd.storeO1 sz2 rfl rfl rfl pkk (by first | omega | (simp; done) | (simp; omega)) ?_)
          try simp only [List.set_cons_zero, List.set_cons_succ]
          refine Hd.nil ?_
          rw [nset n hk σ.t.i]
          refine Hd.slots [(2, _), (3, _), (4, _), (7, _), (10, _), (11, _), (19, _), (20, _), (21, _), (22, _), (23, _), (24, _)] ⟨rfl, rfl, rfl, rfl, rfl, rfl, rfl, rfl, rfl, rfl, rfl, rfl, trivial⟩ ?_
          refine Hd.inB ?_
          refine Hd.toK hK38 ?_
          refine Hd.region ?_
          refine Hd.yv (y_move rfl) ?_
          first | (refine Hd.yv (y_addn rfl rfl (by simp only [InK]; omega)) ?_) | (refine Hd.yv (y_add rfl rfl) ?_)
          refine Hd.yv (y_assign rfl) ?_
          refine Hd.nil ?_
          refine Hd.slots [(2, _), (3, _), (4, _), (7, _), (10, _), (11, _), (19, _), (20, _), (21, _), (22, _), (23, _), (24, _)] ⟨rfl, rfl, rfl, rfl, rfl, rfl, rfl, rfl, rfl, rfl, rfl, rfl, trivial⟩ ?_
          clear hK1 hK2 hK3 hK4 hK6 hK7 hK8 hK9 hK10 hK11 hK12 hK24 hK25 hK26 hK27 hK28 hK29 hK30 hK31 hK32 hK33 hK34 hK35 hK36 hK37 hK38 hK39 hK40 hK41
          refine Hd.thenN ?_
          refine Hd.again (k + 1, nU n k σ.t.i, xU x2 k (stX nw σ.t (x2 k)), stX nw σ.t y2, bU X2 k (readB σ.x 9000), σ.w) (by simp only; omega) (by repeat (first | exact trivial | refine ⟨rfl, ?_⟩)) (fun q t => ?_)
          have t1 : sep (LgL (r k).lb ⟨(r k).b, (r k).s, some gb⟩ ⟨gs, 2⟩ (stX nw σ.t (x2 k)) (stX nw σ.t y2) (BufP (r k).b wb (readB σ.x 9000) :: LimF wb gb r x2 X2 (1 - k) :: own 28 1 la 2 lc (lps r 2) :: WorldP wb σ.w :: own 22 1 aa i ac (AT.map (Value.int .u64)) :: own 67 2 ta i tc (TK.flatMap encP) :: pt b23 [.int .i64 (nU n k σ.t.i 0), .int .i64 (nU n k σ.t.i 1)] 67 :: pt b3 (encRt ow) 24 :: pt b4 (encRt all) 24 :: L)) q := Ent.sep enn q t
          have t2 := lim_shut (r := r k) (G := ⟨gs, 2⟩) q t1
          have t3 := limF_set (k := k) hk (x := x2) (X := X2) (v := stX nw σ.t (x2 k)) (V := readB σ.x 9000) q (Ent.sep (.pick .here (.pick (.there (.there (.there .here))) .same)) q t2)
          have hX4 : ∀ j, BOk (bU X2 k (readB σ.x 9000) j) := fun j => by
            by_cases e : j = k
            · subst e; rw [bU_at]; exact bok_get hX3 9000
            · rw [bU_ne _ _ e]; exact hX2 j
          exact Ent.sep (.pure ⟨by show k + 1 ≤ 2; omega, hX4, hM2⟩ enn) q t3
        ·
          try simp only [decide_eq_true_eq, decide_eq_false_iff_not, Bool.and_eq_true, Bool.or_eq_true, Bool.and_eq_false_iff, Bool.or_eq_false_iff, Bool.not_eq_true', Bool.not_eq_false', Bool.not_eq_true, Bool.not_eq_false, Int.not_lt, Int.not_le, Decidable.not_not, ne_eq] at hc5
          obtain rfl : k = 2 := by omega
          obtain ⟨_, hX2, hM⟩ := hp2
          have hI2 := hI.push hnow0 hle hM
          refine Hd.exit ?_
          refine Hd.thenExit ?_
          refine Hd.thenExit ?_
          refine Hd.inBexit ?_
          refine Hd.toK hK34 ?_
          refine Hd.seq (fun K42 hK42 => ?_)
          refine Hd.region ?_
          refine Hd.yv (y_move rfl) ?_
          refine Hd.yv (y_move rfl) ?_
          refine Hd.bslice (vs := [(0, _)]) rfl (by first | exact bs5_144 .. | kernel_rfl) (fun b144 => ?_)
          refine Hd.append Tryd.underlying65 ty22 rfl rfl rfl pkk (by first | exact RdS.rd (Rd.pt pkk (fun j v e => by simpa using e)) rfl | (first | exact RdS.own pkk | exact RdS.mono hG (Ent.sep enn))) (by first | (simp [Value.oneCell']; done) | assumption) (by first | (simp only [maxLen]; omega) | assumption) (by omega) (fun ad145 cap145 => ?_)
          refine Hd.yv (y_assign rfl) ?_
          refine Hd.nil ?_
          refine Hd.slots [(2, _), (3, _), (4, _), (7, _), (10, _), (11, _), (19, _), (20, _), (21, _), (22, _), (23, _)] ⟨rfl, rfl, rfl, rfl, rfl, rfl, rfl, rfl, rfl, rfl, rfl, trivial⟩ ?_
          refine Hd.toK hK42 ?_
          refine Hd.region ?_
          refine Hd.yv (y_move rfl) ?_
          first | (refine Hd.yv (y_loadn (us := [_, _]) ag67 rfl (Rd.pt pkk (by (first | (intro j v e; rcases j with _|_|_|_|_|_|_|_|_|_|_|_|j <;> first | exact e | exact absurd e (by simp))))) (by exact sz67)) ?_) | (refine Hd.yv (y_loadn (us := [_, _]) ag67 rfl (Rd.seg pkk (by (first | (intro j v e; rcases j with _|_|_|_|_|_|_|_|_|_|_|_|j <;> first | exact e | exact absurd e (by simp))))) (by exact sz67)) ?_) | (refine Hd.yv (y_loadRn ag67 rfl (by (first | exact RdS.own pkk | exact RdS.mono hG (Ent.sep enn))) (by (first | (intro j v e; rcases j with _|_|_|_|_|_|_|_|_|_|_|_|j <;> first | exact e | exact absurd e (by simp)))) (by exact sz67) (by simp)) ?_)
          refine Hd.bslice (vs := [(0, _)]) rfl (by first | exact bs5_148 .. | kernel_rfl) (fun b148 => ?_)
          refine Hd.append Tryd.underlying66 ty67 rfl rfl rfl pkk (by first | exact RdS.rd (Rd.pt pkk (fun j v e => by simpa using e)) rfl | (first | exact RdS.own pkk | exact RdS.mono hG (Ent.sep enn))) (by first | (simp [Value.oneCell']; done) | assumption) (by first | (simp only [maxLen]; omega) | assumption) (by omega) (fun ad149 cap149 => ?_)
          refine Hd.yv (y_assign rfl) ?_
          refine Hd.nil ?_
          refine Hd.slots [(2, _), (3, _), (4, _), (7, _), (10, _), (11, _), (19, _), (20, _), (21, _), (22, _)] ⟨rfl, rfl, rfl, rfl, rfl, rfl, rfl, rfl, rfl, rfl, trivial⟩ ?_
          refine Hd.inB ?_
          refine Hd.toK hK31 ?_
          refine Hd.region ?_
          refine Hd.yv (y_move rfl) ?_
          first | (refine Hd.yv (y_addn rfl rfl (by simp only [InK]; omega)) ?_) | (refine Hd.yv (y_add rfl rfl) ?_)
          refine Hd.yv (y_assign rfl) ?_
          refine Hd.nil ?_
          refine Hd.slots [(2, _), (3, _), (4, _), (7, _), (10, _), (11, _), (19, _), (20, _), (21, _), (22, _)] ⟨rfl, rfl, rfl, rfl, rfl, rfl, rfl, rfl, rfl, rfl, trivial⟩ ?_
          clear hK1 hK2 hK3 hK4 hK6 hK7 hK8 hK9 hK10 hK11 hK12 hK24 hK25 hK26 hK27 hK28 hK29 hK30 hK31 hK32 hK33 hK34 hK35 hK36 hK37 hK42
          refine Hd.thenN ?_
          refine Hd.again (i + 1, nw, x2, y2, X2, w2, AT ++ [nw], TK ++ [(n 0, n 1)], ad145, cap145, ad149, cap149) (by simp only; omega) (by repeat (first | exact trivial | refine ⟨rfl, ?_⟩)) (fun q t => ?_)
          have e1 : (AT ++ [nw]).map (Value.int .u64) = AT.map (Value.int .u64) ++ [.int .u64 nw] := by rw [List.map_append]; rfl
          have e2 : (TK ++ [(n 0, n 1)]).flatMap encP = TK.flatMap encP ++ [.int .i64 (n 0), .int .i64 (n 1)] := by rw [List.flatMap_append]; rfl
          have t1 : sep (LimF wb gb r x2 X2 0 :: LimF wb gb r x2 X2 1 :: own 28 1 la 2 lc (lps r 2) :: GrH gb ⟨gs, 2⟩ :: SlB (gs 0) (y2 0) :: SlB (gs 1) (y2 1) :: WorldP wb w2 :: own 22 1 ad145 (i + 1) cap145 ((AT ++ [nw]).map (Value.int .u64)) :: own 67 2 ad149 (i + 1) cap149 ((TK ++ [(n 0, n 1)]).flatMap encP) :: pt b3 (encRt ow) 24 :: pt b4 (encRt all) 24 :: L) q := by
            rw [e1, e2]
            exact Ent.sep enn q t
          exact Ent.sep (.pure ⟨⟨by show i + 1 ≤ gaps.length; omega, by rw [List.length_append, hal]; rfl, by show (0 : Int) ≤ nw; omega, hnb⟩, hX2, hI2⟩ enn) q t1
      ·
        try simp only [decide_eq_true_eq, decide_eq_false_iff_not, Bool.and_eq_true, Bool.or_eq_true, Bool.and_eq_false_iff, Bool.or_eq_false_iff, Bool.not_eq_true', Bool.not_eq_false', Bool.not_eq_true, Bool.not_eq_false, Int.not_lt, Int.not_le, Decidable.not_not, ne_eq] at hc4
        obtain ⟨⟨hi1, hal, hnow0, hnow1⟩, hX, hI⟩ := hp1
        have htl : TK.length = i := by rw [hI.len]; exact hal
        refine Hd.exit ?_
        refine Hd.thenExit ?_
        refine Hd.thenExit ?_
        refine Hd.inBexit ?_
        refine Hd.toK hK27 ?_
        refine Hd.seq (fun K43 hK43 => ?_)
        refine Hd.seq (fun K44 hK44 => ?_)
        refine Hd.region ?_
        refine Hd.yv (y_assign rfl) ?_
        refine Hd.nil ?_
        refine Hd.slots [(3, _), (4, _), (7, _), (20, _), (21, _), (26, _)] ⟨rfl, rfl, rfl, rfl, rfl, rfl, trivial⟩ ?_
        refine Hd.toK hK44 ?_
        refine Hd.block ?_
        refine Hd.loopK (ι := Nat) [(3, _), (4, _), (7, _), (20, _), (21, _)] (fun p => [(26, .int .i64 (p : Int))]) (fun p => pu (p ≤ i) :: own 22 1 aa i ac (AT.map (Value.int .u64)) :: own 67 2 ta i tc (TK.flatMap encP) :: pt b3 (encRt ow) 24 :: pt b4 (encRt all) 24 :: L) (fun p => i - p) 0 (by repeat (first | exact trivial | refine ⟨rfl, ?_⟩)) (by repeat (first | exact trivial | refine ⟨rfl, ?_⟩)) (Ent.sep (.pure (by first | omega | (simp; done) | (simp; omega) | exact ⟨by simp, by simp⟩) enn)) ?_
        intro p
        try dsimp only
        refine Hd.pure (fun hp3 => ?_)
        try dsimp only at hp3
        refine Hd.seq (fun K45 hK45 => ?_)
        refine Hd.seq (fun K46 hK46 => ?_)
        refine Hd.region ?_
        refine Hd.yv (y_move rfl) ?_
        refine Hd.yv (y_move rfl) ?_
        refine Hd.yv (y_len Tryd.underlying65 rfl) ?_
        refine Hd.yv (y_lss rfl rfl) ?_
        refine Hd.nil ?_
        refine Hd.slots [(3, _), (4, _), (7, _), (20, _), (21, _), (26, _), (153, _)] ⟨rfl, rfl, rfl, rfl, rfl, rfl, rfl, trivial⟩ ?_
        refine Hd.toK hK46 ?_
        refine Hd.cond rfl (fun hc6 => ?_) (fun hc6 => ?_)
        ·
          try simp only [decide_eq_true_eq, decide_eq_false_iff_not, Bool.and_eq_true, Bool.or_eq_true, Bool.and_eq_false_iff, Bool.or_eq_false_iff, Bool.not_eq_true', Bool.not_eq_false', Bool.not_eq_true, Bool.not_eq_false, Int.not_lt, Int.not_le, Decidable.not_not, ne_eq] at hc6
          have hpi : p < i := by omega
          obtain ⟨ap, hap⟩ : ∃ ap, AT[p]? = some ap := ⟨_, List.getElem?_eq_getElem (by omega)⟩
          have hap2 : (AT.map (Value.int .u64))[p * 1]? = some (.int .u64 ap) := by rw [Nat.mul_one, List.getElem?_map, hap]; rfl
          refine Hd.skip ?_
          refine Hd.toK hK45 ?_
          refine Hd.seq (fun K47 hK47 => ?_)
          refine Hd.block ?_
          refine Hd.seq (fun K48 hK48 => ?_)
          refine Hd.region ?_
          refine Hd.yv (y_assign rfl) ?_
          refine Hd.nil ?_
          refine Hd.slots [(3, _), (4, _), (7, _), (20, _), (21, _), (26, _), (27, _)] ⟨rfl, rfl, rfl, rfl, rfl, rfl, rfl, trivial⟩ ?_
          refine Hd.toK hK48 ?_
          refine Hd.seq (fun K49 hK49 => ?_)
          refine Hd.region ?_
          refine Hd.yv (y_assign rfl) ?_
          refine Hd.nil ?_
          refine Hd.slots [(3, _), (4, _), (7, _), (20, _), (21, _), (26, _), (27, _), (28, _)] ⟨rfl, rfl, rfl, rfl, rfl, rfl, rfl, rfl, trivial⟩ ?_
          refine Hd.toK hK49 ?_
          refine Hd.seq (fun K50 hK50 => ?_)
          refine Hd.region ?_
          refine Hd.yv (y_move rfl) ?_
          refine Hd.yv (y_assign rfl) ?_
          refine Hd.nil ?_
          refine Hd.slots [(3, _), (4, _), (7, _), (20, _), (21, _), (26, _), (27, _), (28, _), (29, _)] ⟨rfl, rfl, rfl, rfl, rfl, rfl, rfl, rfl, rfl, trivial⟩ ?_
          refine Hd.toK hK50 ?_
          refine Hd.block ?_
          refine Hd.loopK (ι := Nat × Int × Int) [(3, _), (4, _), (7, _), (20, _), (21, _), (26, _)] (fun q_ => [(27, .int .i64 q_.2.1), (28, .int .i64 q_.2.2), (29, .int .i64 (q_.1 : Int))]) (fun q_ => pu ((p ≤ q_.1 ∧ q_.1 ≤ i) ∧ (q_.2.1 = sumR (TK.map (pj 0)) p q_.1 ∧ q_.2.2 = sumR (TK.map (pj 1)) p q_.1) ∧ 0 ≤ q_.2.1 ∧ q_.2.1 ≤ 4096 * (q_.1 : Int) ∧ 0 ≤ q_.2.2 ∧ q_.2.2 ≤ 4096 * (q_.1 : Int)) :: own 22 1 aa i ac (AT.map (Value.int .u64)) :: own 67 2 ta i tc (TK.flatMap encP) :: pt b3 (encRt ow) 24 :: pt b4 (encRt all) 24 :: L) (fun q_ => i - q_.1) (p, 0, 0) (by repeat (first | exact trivial | refine ⟨rfl, ?_⟩)) (by repeat (first | exact trivial | refine ⟨rfl, ?_⟩)) (Ent.sep (.pure ⟨⟨Nat.le_refl _, by omega⟩, ⟨(sumR_0 _ _).symm, (sumR_0 _ _).symm⟩, Int.le_refl _, by show (0 : Int) ≤ 4096 * (p : Int); omega, Int.le_refl _, by show (0 : Int) ≤ 4096 * (p : Int); omega⟩ enn)) ?_
          rintro ⟨kk, va, vb⟩
          try dsimp only
          refine Hd.pure (fun hp4 => ?_)
          try dsimp only at hp4
          refine Hd.seq (fun K51 hK51 => ?_)
          refine Hd.seq (fun K52 hK52 => ?_)
          refine Hd.region ?_
          refine Hd.yv (y_move rfl) ?_
          refine Hd.yv (y_move rfl) ?_
          refine Hd.yv (y_len Tryd.underlying65 rfl) ?_
          refine Hd.yv (y_lss rfl rfl) ?_
          refine Hd.nil ?_
          refine Hd.slots [(3, _), (4, _), (7, _), (20, _), (21, _), (26, _), (27, _), (28, _), (29, _), (160, _)] ⟨rfl, rfl, rfl, rfl, rfl, rfl, rfl, rfl, rfl, rfl, trivial⟩ ?_
          refine Hd.toK hK52 ?_
          refine Hd.cond rfl (fun hc7 => ?_) (fun hc7 => ?_)
          ·
            try simp only [decide_eq_true_eq, decide_eq_false_iff_not, Bool.and_eq_true, Bool.or_eq_true, Bool.and_eq_false_iff, Bool.or_eq_false_iff, Bool.not_eq_true', Bool.not_eq_false', Bool.not_eq_true, Bool.not_eq_false, Int.not_lt, Int.not_le, Decidable.not_not, ne_eq] at hc7
            obtain ⟨⟨hpk, _⟩, ⟨hva, hvb⟩, ha0, ha1, hb0, hb1⟩ := hp4
            have hki : kk < i := by omega
            obtain ⟨ak, hak⟩ : ∃ ak, AT[kk]? = some ak := ⟨_, List.getElem?_eq_getElem (by omega)⟩
            have hak2 : (AT.map (Value.int .u64))[kk * 1]? = some (.int .u64 ak) := by rw [Nat.mul_one, List.getElem?_map, hak]; rfl
            obtain ⟨tk, htk⟩ : ∃ tk, TK[kk]? = some tk := ⟨_, List.getElem?_eq_getElem (by omega)⟩
            obtain ⟨hb1, hb2, hb3, hb4⟩ := hI.bnd tk (List.mem_of_getElem? htk)
            have hs0 : (TK.map (pj 0))[kk]? = some tk.1 := by rw [List.getElem?_map, htk]; rfl
            have hs1 : (TK.map (pj 1))[kk]? = some tk.2 := by rw [List.getElem?_map, htk]; rfl
            have hl0 : (TK.flatMap encP)[kk * 2 + 0]? = some (.int .i64 tk.1) := flat_cells encP 2 (fun _ => rfl) htk 0 _ rfl
            have hl1 : (TK.flatMap encP)[kk * 2 + 1]? = some (.int .i64 tk.2) := flat_cells encP 2 (fun _ => rfl) htk 1 _ rfl
            have hva2 : va + tk.1 = sumR (TK.map (pj 0)) p (kk + 1) := by rw [sumR_succ hs0 hpk, hva]
            have hvb2 : vb + tk.2 = sumR (TK.map (pj 1)) p (kk + 1) := by rw [sumR_succ hs1 hpk, hvb]
            have hsr := hI.srt p kk ap ak hpk hap hak
            have hrw : 0 < ow.every → RtOk ow := fun ho => mayB_at (r := rts ow r0) hO (k := 0) (by decide) (rz_no ho)
            have hra : 0 < all.every → RtOk all := fun ho => mayB_at (r := rts all r0) hB (k := 0) (by decide) (rz_no ho)
            obtain ⟨d, hd⟩ : ∃ d, ak - ap = d := ⟨_, rfl⟩
            have hd0 : 0 ≤ d := by omega
            have hd1 : d ≤ 3276750 := by omega
            have hbw : 0 < ow.every → (0 ≤ d / ow.every ∧ d / ow.every ≤ 3276750 ∧ 0 ≤ (d / ow.every + 1) * ow.many ∧ (d / ow.every + 1) * ow.many ≤ 3276751 * 2147483647) ∧ 1 ≤ ow.burst ∧ ow.burst ≤ 2147483647 := fun ho => ⟨fair_b (hrw ho) hd0 hd1, by have := (hrw ho).m1; have := (hrw ho).b1; omega, (hrw ho).b2⟩
            have hba : 0 < all.every → (0 ≤ d / all.every ∧ d / all.every ≤ 3276750 ∧ 0 ≤ (d / all.every + 1) * all.many ∧ (d / all.every + 1) * all.many ≤ 3276751 * 2147483647) ∧ 1 ≤ all.burst ∧ all.burst ≤ 2147483647 := fun ho => ⟨fair_b (hra ho) hd0 hd1, by have := (hra ho).m1; have := (hra ho).b1; omega, (hra ho).b2⟩
            have hfw : 0 < ow.every → va + tk.1 ≤ ow.burst + (d / ow.every + 1) * ow.many ∧ vb + tk.2 ≤ ow.burst + (d / ow.every + 1) * ow.many := fun ho => by
              have f0 := fair_at (hI.fo ho 0 (by decide)) hpk hap hak
              have f1 := fair_at (hI.fo ho 1 (by decide)) hpk hap hak
              rw [hva2, hvb2, ← hd]
              exact ⟨f0, f1⟩
            have hfa : 0 < all.every → (va + tk.1) + (vb + tk.2) ≤ all.burst + (d / all.every + 1) * all.many := fun ho => by
              have f0 := fair_at (hI.fa ho) hpk hap hak
              rw [sumR_ps] at f0
              rw [hva2, hvb2, ← hd]
              exact f0
            refine Hd.skip ?_
            refine Hd.toK hK51 ?_
            refine Hd.seq (fun K53 hK53 => ?_)
            refine Hd.block ?_
            refine Hd.seq (fun K54 hK54 => ?_)
            refine Hd.region ?_
            refine Hd.yv (y_move rfl) ?_
            refine Hd.yv (y_move rfl) ?_
            refine Hd.yv (y_move rfl) ?_
            first | (refine Hd.yv (y_idxS Tryd.underlying66 sz67 rfl rfl (by first | omega | decide)) ?_) | (refine Hd.yv (y_idxR Tryd.underlying66 sz67 rfl rfl (by first | omega | decide) (by (first | exact RdS.own pkk | exact RdS.mono hG (Ent.sep enn)))) ?_)
            refine Hd.yv (y_idxAR (o := kk * 2) (ad := ta) Tryd.underlying67 sz2 rfl rfl (by decide)) ?_
            refine Hd.yv (y_loadR1 ag2 rfl (RdS.own (ad := ta) (us := TK.flatMap encP) pkk) hl0) ?_
            first | (refine Hd.yv (y_addn rfl rfl (by simp only [InK]; omega)) ?_) | (refine Hd.yv (y_add rfl rfl) ?_)
            refine Hd.yv (y_assign rfl) ?_
            refine Hd.nil ?_
            refine Hd.slots [(3, _), (4, _), (7, _), (20, _), (21, _), (26, _), (27, _), (28, _), (29, _)] ⟨rfl, rfl, rfl, rfl, rfl, rfl, rfl, rfl, rfl, trivial⟩ ?_
            refine Hd.toK hK54 ?_
            refine Hd.seq (fun K55 hK55 => ?_)
            refine Hd.region ?_
            refine Hd.yv (y_move rfl) ?_
            refine Hd.yv (y_move rfl) ?_
            refine Hd.yv (y_move rfl) ?_
            first | (refine Hd.yv (y_idxS Tryd.underlying66 sz67 rfl rfl (by first | omega | decide)) ?_) | (refine Hd.yv (y_idxR Tryd.underlying66 sz67 rfl rfl (by first | omega | decide) (by (first | exact RdS.own pkk | exact RdS.mono hG (Ent.sep enn)))) ?_)
            refine Hd.yv (y_idxAR (o := kk * 2) (ad := ta) Tryd.underlying67 sz2 rfl rfl (by decide)) ?_
            refine Hd.yv (y_loadR1 ag2 rfl (RdS.own (ad := ta) (us := TK.flatMap encP) pkk) hl1) ?_
            first | (refine Hd.yv (y_addn rfl rfl (by simp only [InK]; omega)) ?_) | (refine Hd.yv (y_add rfl rfl) ?_)
            refine Hd.yv (y_assign rfl) ?_
            refine Hd.nil ?_
            refine Hd.slots [(3, _), (4, _), (7, _), (20, _), (21, _), (26, _), (27, _), (28, _), (29, _)] ⟨rfl, rfl, rfl, rfl, rfl, rfl, rfl, rfl, rfl, trivial⟩ ?_
            refine Hd.toK hK55 ?_
            refine Hd.seq (fun K56 hK56 => ?_)
            refine Hd.quiet mixed (by kernel_rfl) ?_
            refine Hq.yv (y_move rfl) ?_
            refine Hq.yv (y_move rfl) ?_
            first | (refine Hq.yv (y_idxS Tryd.underlying65 sz22 rfl rfl (by first | omega | decide)) ?_) | (refine Hq.yv (y_idxR Tryd.underlying65 sz22 rfl rfl (by first | omega | decide) (by (first | exact RdS.own pkk | exact RdS.mono hG (Ent.sep enn)))) ?_)
            refine Hq.yv (y_loadR1 ag22 rfl (RdS.own (ad := aa) (us := AT.map (Value.int .u64)) pkk) hak2) ?_
            refine Hq.yv (y_move rfl) ?_
            refine Hq.yv (y_move rfl) ?_
            first | (refine Hq.yv (y_idxS Tryd.underlying65 sz22 rfl rfl (by first | omega | decide)) ?_) | (refine Hq.yv (y_idxR Tryd.underlying65 sz22 rfl rfl (by first | omega | decide) (by (first | exact RdS.own pkk | exact RdS.mono hG (Ent.sep enn)))) ?_)
            refine Hq.yv (y_loadR1 ag22 rfl (RdS.own (ad := aa) (us := AT.map (Value.int .u64)) pkk) hap2) ?_
            first | (refine Hq.yv (y_to (v' := .int .u64 d) (y_subn rfl rfl (by simp only [InK]; omega)) (by (rw [← hd]))) ?_) | (refine Hq.yv (y_to (v' := .int .u64 d) (y_sub rfl rfl) (by (rw [← hd]))) ?_)
            refine Hq.yv (y_assign rfl) ?_
            refine Hq.nil ?_
            refine Hd.slots [(3, _), (4, _), (7, _), (20, _), (21, _), (26, _), (27, _), (28, _), (29, _), (30, _)] ⟨rfl, rfl, rfl, rfl, rfl, rfl, rfl, rfl, rfl, rfl, trivial⟩ ?_
            refine Hd.toK hK56 ?_
            refine Hd.seq (fun K57 hK57 => ?_)
            refine Hd.seq (fun K58 hK58 => ?_)
            refine Hd.quiet mixed (by kernel_rfl) ?_
            first | (refine Hq.yv (y_field' (q := 1) (ft := 22) Tryd.underlying24 rfl sz22 rfl rfl) ?_) | (refine Hq.yv (y_fieldR (q := 1) (ft := 22) Tryd.underlying24 rfl sz22 rfl rfl) ?_)
            first | (refine Hq.yv (y_load1 ag22 rfl (Rd.pt1 pkk (by (first | rfl)))) ?_) | (refine Hq.yv (y_load1 ag22 rfl (Rd.seg1 pkk (by (first | rfl)))) ?_) | (refine Hq.yv (y_loadR1 ag22 rfl (by (first | exact RdS.own pkk | exact RdS.mono hG (Ent.sep enn))) (by (first | rfl))) ?_)
            refine Hq.yv (y_gtr rfl rfl) ?_
            refine Hq.yv (y_move rfl) ?_
            apply Hq.andg 17 189 206 [(3, _), (4, _), (7, _), (20, _), (21, _), (26, _), (27, _), (28, _), (29, _), (30, _)] rfl ⟨rfl, rfl, rfl, rfl, rfl, rfl, rfl, rfl, rfl, rfl, trivial⟩
            · intro hg49_189
              try simp only [decide_eq_true_eq, decide_eq_false_iff_not, Bool.and_eq_true, Bool.or_eq_true, Bool.and_eq_false_iff, Bool.or_eq_false_iff, Bool.not_eq_true', Bool.not_eq_false', Bool.not_eq_true, Bool.not_eq_false, Int.not_lt, Int.not_le, Decidable.not_not, ne_eq] at hg49_189
              simp only [List.take]
              refine Hq.yg rfl rfl (y_move rfl) ?_
              refine Hq.yg rfl rfl (y_move rfl) ?_
              refine Hq.yg rfl rfl (y_max rfl rfl) ?_
              first | (refine Hq.yg rfl rfl (y_field' (q := 2) (ft := 2) Tryd.underlying24 rfl sz2 rfl rfl) ?_) | (refine Hq.yg rfl rfl (y_fieldR (q := 2) (ft := 2) Tryd.underlying24 rfl sz2 rfl rfl) ?_)
              first | (refine Hq.yg rfl rfl (y_load1 ag2 rfl (Rd.pt1 pkk (by (first | rfl)))) ?_) | (refine Hq.yg rfl rfl (y_load1 ag2 rfl (Rd.seg1 pkk (by (first | rfl)))) ?_) | (refine Hq.yg rfl rfl (y_loadR1 ag2 rfl (by (first | exact RdS.own pkk | exact RdS.mono hG (Ent.sep enn))) (by (first | rfl))) ?_)
              refine Hq.yg rfl rfl (y_move rfl) ?_
              first | (refine Hq.yg rfl rfl (y_field' (q := 1) (ft := 22) Tryd.underlying24 rfl sz22 rfl rfl) ?_) | (refine Hq.yg rfl rfl (y_fieldR (q := 1) (ft := 22) Tryd.underlying24 rfl sz22 rfl rfl) ?_)
              first | (refine Hq.yg rfl rfl (y_load1 ag22 rfl (Rd.pt1 pkk (by (first | rfl)))) ?_) | (refine Hq.yg rfl rfl (y_load1 ag22 rfl (Rd.seg1 pkk (by (first | rfl)))) ?_) | (refine Hq.yg rfl rfl (y_loadR1 ag22 rfl (by (first | exact RdS.own pkk | exact RdS.mono hG (Ent.sep enn))) (by (first | rfl))) ?_)
              first | (refine Hq.yg rfl rfl (y_quoN rfl rfl (by omega) (by simp only [InK]; omega)) ?_) | (refine Hq.yg rfl rfl (y_quon rfl rfl (by omega) (by omega) (by simp only [InK]; omega)) ?_) | (refine Hq.yg rfl rfl (y_quo rfl rfl (by omega)) ?_)
              first | (refine Hq.yg rfl rfl (y_convn rfl Tryd.underlying22 Tryd.underlying2 (by simp only [InK]; omega)) ?_) | (refine Hq.yg rfl rfl (y_conv rfl Tryd.underlying22 Tryd.underlying2) ?_)
              first | (refine Hq.yg rfl rfl (y_addn rfl rfl (by simp only [InK]; omega)) ?_) | (refine Hq.yg rfl rfl (y_add rfl rfl) ?_)
              first | (refine Hq.yg rfl rfl (y_field' (q := 0) (ft := 2) Tryd.underlying24 rfl sz2 rfl rfl) ?_) | (refine Hq.yg rfl rfl (y_fieldR (q := 0) (ft := 2) Tryd.underlying24 rfl sz2 rfl rfl) ?_)
              first | (refine Hq.yg rfl rfl (y_load1 ag2 rfl (Rd.pt1 pkk (by (first | rfl)))) ?_) | (refine Hq.yg rfl rfl (y_load1 ag2 rfl (Rd.seg1 pkk (by (first | rfl)))) ?_) | (refine Hq.yg rfl rfl (y_loadR1 ag2 rfl (by (first | exact RdS.own pkk | exact RdS.mono hG (Ent.sep enn))) (by (first | rfl))) ?_)
              first | (refine Hq.yg rfl rfl (y_muln rfl rfl (by simp only [InK]; omega)) ?_) | (refine Hq.yg rfl rfl (y_mul rfl rfl) ?_)
              first | (refine Hq.yg rfl rfl (y_addn rfl rfl (by simp only [InK]; omega)) ?_) | (refine Hq.yg rfl rfl (y_add rfl rfl) ?_)
              refine Hq.yg rfl rfl (y_gtr rfl rfl) ?_
              first | (refine Hq.yv (y_pickT rfl rfl) ?_) | (refine Hq.yv (y_pickF rfl rfl) ?_) | (refine Hq.yv (y_pickb rfl rfl rfl) ?_) | (refine Hq.yv (y_pick rfl rfl rfl) ?_)
              exact Hq.mend (by repeat (first | exact trivial | refine ⟨rfl, ?_⟩))
            · intro hg49_189
              try simp only [decide_eq_true_eq, decide_eq_false_iff_not, Bool.and_eq_true, Bool.or_eq_true, Bool.and_eq_false_iff, Bool.or_eq_false_iff, Bool.not_eq_true', Bool.not_eq_false', Bool.not_eq_true, Bool.not_eq_false, Int.not_lt, Int.not_le, Decidable.not_not, ne_eq] at hg49_189
              simp only [List.take]
              refine Hq.ng rfl rfl rfl ?_
              refine Hq.ng rfl rfl rfl ?_
              refine Hq.ng rfl rfl rfl ?_
              refine Hq.ng rfl rfl rfl ?_
              refine Hq.ng rfl rfl rfl ?_
              refine Hq.ng rfl rfl rfl ?_
              refine Hq.ng rfl rfl rfl ?_
              refine Hq.ng rfl rfl rfl ?_
              refine Hq.ng rfl rfl rfl ?_
              refine Hq.ng rfl rfl rfl ?_
              refine Hq.ng rfl rfl rfl ?_
              refine Hq.ng rfl rfl rfl ?_
              refine Hq.ng rfl rfl rfl ?_
              refine Hq.ng rfl rfl rfl ?_
              refine Hq.ng rfl rfl rfl ?_
              refine Hq.ng rfl rfl rfl ?_
              first | (refine Hq.yv (y_pickT rfl rfl) ?_) | (refine Hq.yv (y_pickF rfl rfl) ?_) | (refine Hq.yv (y_pickb rfl rfl rfl) ?_) | (refine Hq.yv (y_pick rfl rfl rfl) ?_)
              exact Hq.mend (by repeat (first | exact trivial | refine ⟨rfl, ?_⟩))
            simp only [List.drop]
            refine Hq.nil ?_
            refine Hd.slots [(3, _), (4, _), (7, _), (20, _), (21, _), (26, _), (27, _), (28, _), (29, _), (30, _), (206, _)] ⟨rfl, rfl, rfl, rfl, rfl, rfl, rfl, rfl, rfl, rfl, rfl, trivial⟩ ?_
            refine Hd.toK hK58 ?_
            refine Hd.cond rfl (fun hc8 => ?_) (fun hc8 => ?_)
            ·
              try simp only [decide_eq_true_eq, decide_eq_false_iff_not, Bool.and_eq_true, Bool.or_eq_true, Bool.and_eq_false_iff, Bool.or_eq_false_iff, Bool.not_eq_true', Bool.not_eq_false', Bool.not_eq_true, Bool.not_eq_false, Int.not_lt, Int.not_le, Decidable.not_not, ne_eq] at hc8
              have := hfw hc8.1
              omega
            ·
              try simp only [decide_eq_true_eq, decide_eq_false_iff_not, Bool.and_eq_true, Bool.or_eq_true, Bool.and_eq_false_iff, Bool.or_eq_false_iff, Bool.not_eq_true', Bool.not_eq_false', Bool.not_eq_true, Bool.not_eq_false, Int.not_lt, Int.not_le, Decidable.not_not, ne_eq] at hc8
              refine Hd.skip ?_
              refine Hd.toK hK57 ?_
              refine Hd.seq (fun K59 hK59 => ?_)
              refine Hd.quiet mixed (by kernel_rfl) ?_
              first | (refine Hq.yv (y_field' (q := 1) (ft := 22) Tryd.underlying24 rfl sz22 rfl rfl) ?_) | (refine Hq.yv (y_fieldR (q := 1) (ft := 22) Tryd.underlying24 rfl sz22 rfl rfl) ?_)
              first | (refine Hq.yv (y_load1 ag22 rfl (Rd.pt1 pkk (by (first | rfl)))) ?_) | (refine Hq.yv (y_load1 ag22 rfl (Rd.seg1 pkk (by (first | rfl)))) ?_) | (refine Hq.yv (y_loadR1 ag22 rfl (by (first | exact RdS.own pkk | exact RdS.mono hG (Ent.sep enn))) (by (first | rfl))) ?_)
              refine Hq.yv (y_gtr rfl rfl) ?_
              refine Hq.yv (y_move rfl) ?_
              apply Hq.andg 17 210 227 [(3, _), (4, _), (7, _), (20, _), (21, _), (26, _), (27, _), (28, _), (29, _)] rfl ⟨rfl, rfl, rfl, rfl, rfl, rfl, rfl, rfl, rfl, trivial⟩
              · intro hg51_210
                try simp only [decide_eq_true_eq, decide_eq_false_iff_not, Bool.and_eq_true, Bool.or_eq_true, Bool.and_eq_false_iff, Bool.or_eq_false_iff, Bool.not_eq_true', Bool.not_eq_false', Bool.not_eq_true, Bool.not_eq_false, Int.not_lt, Int.not_le, Decidable.not_not, ne_eq] at hg51_210
                simp only [List.take]
                refine Hq.yg rfl rfl (y_move rfl) ?_
                refine Hq.yg rfl rfl (y_move rfl) ?_
                first | (refine Hq.yg rfl rfl (y_addn rfl rfl (by simp only [InK]; omega)) ?_) | (refine Hq.yg rfl rfl (y_add rfl rfl) ?_)
                first | (refine Hq.yg rfl rfl (y_field' (q := 2) (ft := 2) Tryd.underlying24 rfl sz2 rfl rfl) ?_) | (refine Hq.yg rfl rfl (y_fieldR (q := 2) (ft := 2) Tryd.underlying24 rfl sz2 rfl rfl) ?_)
                first | (refine Hq.yg rfl rfl (y_load1 ag2 rfl (Rd.pt1 pkk (by (first | rfl)))) ?_) | (refine Hq.yg rfl rfl (y_load1 ag2 rfl (Rd.seg1 pkk (by (first | rfl)))) ?_) | (refine Hq.yg rfl rfl (y_loadR1 ag2 rfl (by (first | exact RdS.own pkk | exact RdS.mono hG (Ent.sep enn))) (by (first | rfl))) ?_)
                refine Hq.yg rfl rfl (y_move rfl) ?_
                first | (refine Hq.yg rfl rfl (y_field' (q := 1) (ft := 22) Tryd.underlying24 rfl sz22 rfl rfl) ?_) | (refine Hq.yg rfl rfl (y_fieldR (q := 1) (ft := 22) Tryd.underlying24 rfl sz22 rfl rfl) ?_)
                first | (refine Hq.yg rfl rfl (y_load1 ag22 rfl (Rd.pt1 pkk (by (first | rfl)))) ?_) | (refine Hq.yg rfl rfl (y_load1 ag22 rfl (Rd.seg1 pkk (by (first | rfl)))) ?_) | (refine Hq.yg rfl rfl (y_loadR1 ag22 rfl (by (first | exact RdS.own pkk | exact RdS.mono hG (Ent.sep enn))) (by (first | rfl))) ?_)
                first | (refine Hq.yg rfl rfl (y_quoN rfl rfl (by omega) (by simp only [InK]; omega)) ?_) | (refine Hq.yg rfl rfl (y_quon rfl rfl (by omega) (by omega) (by simp only [InK]; omega)) ?_) | (refine Hq.yg rfl rfl (y_quo rfl rfl (by omega)) ?_)
                first | (refine Hq.yg rfl rfl (y_convn rfl Tryd.underlying22 Tryd.underlying2 (by simp only [InK]; omega)) ?_) | (refine Hq.yg rfl rfl (y_conv rfl Tryd.underlying22 Tryd.underlying2) ?_)
                first | (refine Hq.yg rfl rfl (y_addn rfl rfl (by simp only [InK]; omega)) ?_) | (refine Hq.yg rfl rfl (y_add rfl rfl) ?_)
                first | (refine Hq.yg rfl rfl (y_field' (q := 0) (ft := 2) Tryd.underlying24 rfl sz2 rfl rfl) ?_) | (refine Hq.yg rfl rfl (y_fieldR (q := 0) (ft := 2) Tryd.underlying24 rfl sz2 rfl rfl) ?_)
                first | (refine Hq.yg rfl rfl (y_load1 ag2 rfl (Rd.pt1 pkk (by (first | rfl)))) ?_) | (refine Hq.yg rfl rfl (y_load1 ag2 rfl (Rd.seg1 pkk (by (first | rfl)))) ?_) | (refine Hq.yg rfl rfl (y_loadR1 ag2 rfl (by (first | exact RdS.own pkk | exact RdS.mono hG (Ent.sep enn))) (by (first | rfl))) ?_)
                first | (refine Hq.yg rfl rfl (y_muln rfl rfl (by simp only [InK]; omega)) ?_) | (refine Hq.yg rfl rfl (y_mul rfl rfl) ?_)
                first | (refine Hq.yg rfl rfl (y_addn rfl rfl (by simp only [InK]; omega)) ?_) | (refine Hq.yg rfl rfl (y_add rfl rfl) ?_)
                refine Hq.yg rfl rfl (y_gtr rfl rfl) ?_
                first | (refine Hq.yv (y_pickT rfl rfl) ?_) | (refine Hq.yv (y_pickF rfl rfl) ?_) | (refine Hq.yv (y_pickb rfl rfl rfl) ?_) | (refine Hq.yv (y_pick rfl rfl rfl) ?_)
                exact Hq.mend (by repeat (first | exact trivial | refine ⟨rfl, ?_⟩))
              · intro hg51_210
                try simp only [decide_eq_true_eq, decide_eq_false_iff_not, Bool.and_eq_true, Bool.or_eq_true, Bool.and_eq_false_iff, Bool.or_eq_false_iff, Bool.not_eq_true', Bool.not_eq_false', Bool.not_eq_true, Bool.not_eq_false, Int.not_lt, Int.not_le, Decidable.not_not, ne_eq] at hg51_210
                simp only [List.take]
                refine Hq.ng rfl rfl rfl ?_
                refine Hq.ng rfl rfl rfl ?_
                refine Hq.ng rfl rfl rfl ?_
                refine Hq.ng rfl rfl rfl ?_
                refine Hq.ng rfl rfl rfl ?_
                refine Hq.ng rfl rfl rfl ?_
                refine Hq.ng rfl rfl rfl ?_
                refine Hq.ng rfl rfl rfl ?_
                refine Hq.ng rfl rfl rfl ?_
                refine Hq.ng rfl rfl rfl ?_
                refine Hq.ng rfl rfl rfl ?_
                refine Hq.ng rfl rfl rfl ?_
                refine Hq.ng rfl rfl rfl ?_
                refine Hq.ng rfl rfl rfl ?_
                refine Hq.ng rfl rfl rfl ?_
                refine Hq.ng rfl rfl rfl ?_
                first | (refine Hq.yv (y_pickT rfl rfl) ?_) | (refine Hq.yv (y_pickF rfl rfl) ?_) | (refine Hq.yv (y_pickb rfl rfl rfl) ?_) | (refine Hq.yv (y_pick rfl rfl rfl) ?_)
                exact Hq.mend (by repeat (first | exact trivial | refine ⟨rfl, ?_⟩))
              simp only [List.drop]
              refine Hq.nil ?_
              refine Hd.slots [(3, _), (4, _), (7, _), (20, _), (21, _), (26, _), (27, _), (28, _), (29, _), (227, _)] ⟨rfl, rfl, rfl, rfl, rfl, rfl, rfl, rfl, rfl, rfl, trivial⟩ ?_
              refine Hd.toK hK59 ?_
              refine Hd.cond rfl (fun hc9 => ?_) (fun hc9 => ?_)
              ·
                try simp only [decide_eq_true_eq, decide_eq_false_iff_not, Bool.and_eq_true, Bool.or_eq_true, Bool.and_eq_false_iff, Bool.or_eq_false_iff, Bool.not_eq_true', Bool.not_eq_false', Bool.not_eq_true, Bool.not_eq_false, Int.not_lt, Int.not_le, Decidable.not_not, ne_eq] at hc9
                have := hfa hc9.1
                omega
              ·
                try simp only [decide_eq_true_eq, decide_eq_false_iff_not, Bool.and_eq_true, Bool.or_eq_true, Bool.and_eq_false_iff, Bool.or_eq_false_iff, Bool.not_eq_true', Bool.not_eq_false', Bool.not_eq_true, Bool.not_eq_false, Int.not_lt, Int.not_le, Decidable.not_not, ne_eq] at hc9
                refine Hd.skip ?_
                refine Hd.inB ?_
                refine Hd.toK hK53 ?_
                refine Hd.region ?_
                refine Hd.yv (y_move rfl) ?_
                first | (refine Hd.yv (y_addn rfl rfl (by simp only [InK]; omega)) ?_) | (refine Hd.yv (y_add rfl rfl) ?_)
                refine Hd.yv (y_assign rfl) ?_
                refine Hd.nil ?_
                refine Hd.slots [(3, _), (4, _), (7, _), (20, _), (21, _), (26, _), (27, _), (28, _), (29, _)] ⟨rfl, rfl, rfl, rfl, rfl, rfl, rfl, rfl, rfl, trivial⟩ ?_
                clear hK1 hK2 hK3 hK4 hK6 hK7 hK8 hK9 hK10 hK11 hK12 hK24 hK25 hK26 hK27 hK28 hK29 hK30 hK43 hK44 hK45 hK46 hK47 hK48 hK49 hK50 hK51 hK52 hK53 hK54 hK55 hK56 hK57 hK58 hK59
                refine Hd.thenN ?_
                exact Hd.again (kk + 1, va + tk.1, vb + tk.2) (by first | omega | (simp only; omega) | (simp; omega)) (by repeat (first | exact trivial | refine ⟨rfl, ?_⟩)) (Ent.sep (.pure ⟨⟨by show p ≤ kk + 1; omega, by show kk + 1 ≤ i; omega⟩, ⟨hva2, hvb2⟩, by show 0 ≤ va + tk.1; omega, by show va + tk.1 ≤ 4096 * ((kk + 1 : Nat) : Int); omega, by show 0 ≤ vb + tk.2; omega, by show vb + tk.2 ≤ 4096 * ((kk + 1 : Nat) : Int); omega⟩ enn))
          ·
            try simp only [decide_eq_true_eq, decide_eq_false_iff_not, Bool.and_eq_true, Bool.or_eq_true, Bool.and_eq_false_iff, Bool.or_eq_false_iff, Bool.not_eq_true', Bool.not_eq_false', Bool.not_eq_true, Bool.not_eq_false, Int.not_lt, Int.not_le, Decidable.not_not, ne_eq] at hc7
            refine Hd.exit ?_
            refine Hd.thenExit ?_
            refine Hd.thenExit ?_
            refine Hd.inBexit ?_
            refine Hd.inB ?_
            refine Hd.toK hK47 ?_
            refine Hd.region ?_
            refine Hd.yv (y_move rfl) ?_
            first | (refine Hd.yv (y_addn rfl rfl (by simp only [InK]; omega)) ?_) | (refine Hd.yv (y_add rfl rfl) ?_)
            refine Hd.yv (y_assign rfl) ?_
            refine Hd.nil ?_
            refine Hd.slots [(3, _), (4, _), (7, _), (20, _), (21, _), (26, _)] ⟨rfl, rfl, rfl, rfl, rfl, rfl, trivial⟩ ?_
            clear hK1 hK2 hK3 hK4 hK6 hK7 hK8 hK9 hK10 hK11 hK12 hK24 hK25 hK26 hK27 hK28 hK29 hK30 hK43 hK44 hK45 hK46 hK47 hK48 hK49 hK50 hK51 hK52
            refine Hd.thenN ?_
            exact Hd.again (p + 1) (by first | omega | (simp only; omega) | (simp; omega)) (by repeat (first | exact trivial | refine ⟨rfl, ?_⟩)) (Ent.sep (.pure (by first | omega | (simp; done) | (simp; omega) | (dsimp only; omega)) enn))
        ·
          try simp only [decide_eq_true_eq, decide_eq_false_iff_not, Bool.and_eq_true, Bool.or_eq_true, Bool.and_eq_false_iff, Bool.or_eq_false_iff, Bool.not_eq_true', Bool.not_eq_false', Bool.not_eq_true, Bool.not_eq_false, Int.not_lt, Int.not_le, Decidable.not_not, ne_eq] at hc6
          refine Hd.exit ?_
          refine Hd.thenExit ?_
          refine Hd.thenExit ?_
          refine Hd.inBexit ?_
          refine Hd.toK hK43 ?_
          refine Hd.seq (fun K60 hK60 => ?_)
          refine Hd.region ?_
          refine Hd.yv (y_move rfl) ?_
          refine Hd.yv (y_assign rfl) ?_
          refine Hd.nil ?_
          refine Hd.slots [(6, _)] ⟨rfl, trivial⟩ ?_
          refine Hd.toK hK60 ?_
          refine Hd.ret ?_
          clear hK1 hK2 hK3 hK4 hK6 hK7 hK8 hK9 hK10 hK11 hK12 hK24 hK25 hK26 hK27 hK28 hK29 hK30 hK43 hK44 hK45 hK46 hK60
          exact Hd.ret1 rfl () (by first | rfl | (simp only [*]; done) | (simp [*]; done)) (Ent.sep enn)
end Lm
end Go.Proofs.YtmpemhbfgbochaaDoor
namespace Go.Proofs.YtmpemhbfgbochaaDoor
set_option linter.unusedSimpArgs false
set_option linter.unusedVariables false
set_option linter.unnecessarySimpa false
open Go.RX Go.ChangeShapes Go.WideShapes Go.ChangeAt Go.RowKit
theorem Tryd.own : ownKnob Tryd.prog.godebug = none := by kernel_rfl
theorem Tryd.laidOut : laidOutB Tryd.prog = true := by kernel_rfl
theorem rd_ints {W : World} {k : IntKind} {x : (Sh.slice (.int k)).T} (h : (Sh.slice (.int k)).ok W x) : RdS [Old W] 1 x.ad x.l.length (x.l.map fun y => .int k y) := by
  have e : x.l.flatMap (Sh.int k).enc = x.l.map fun y => .int k y := by
    have : ∀ l : List Int, l.flatMap (Sh.int k).enc = l.map fun y => .int k y := fun l => by
      induction l with
      | nil => rfl
      | cons a l ih => rw [List.flatMap_cons, ih]; rfl
    exact this x.l
  rw [← e]; exact h.1
theorem Lm.lbounds_ct (L : List Go.RX.SP) (hF : Rd L 0 0 Lm.flV) (ow al : Lm.RtA) (ga : Option Addr) (gc : Nat) (gaps : List Int) (hG : RdS L 1 ga gaps.length (gaps.map fun y => .int .u16 y)) (hgv : ∀ x ∈ gaps, InK .u16 x) :
    Ct Tryd.prog 5 #[.agg (Lm.encRt ow).toArray, .agg (Lm.encRt al).toArray, .slice ga gaps.length gc] L (fun _ : Unit => .bool true) (fun _ => L) :=
  Lm.Ct.cases (Lm.mayB (Lm.rts al Lm.r0)) (fun h1 => Lm.Ct.cases (Lm.mayB (Lm.rts ow Lm.r0)) (fun h2 => Lm.lb_ok L hF ow al h1 h2 ga gc gaps hG hgv) (fun h2 => Lm.lb_bad2 L hF ow al h1 h2 ga gc gaps hG)) (fun h1 => Lm.lb_bad L hF ow al h1 ga gc gaps hG)
theorem gTab : Tryd.prog.globalNamed "roundhouse/limit.flags" = some 0 := by kernel_rfl
theorem gTabType : (Tryd.prog.globals[0]?).map (·.type) = some 107 := by kernel_rfl
theorem cellsT : Tryd.prog.cellsOf 107 = 2 := by kernel_rfl
theorem cellsE : Tryd.prog.cellsOf 3 = 1 := by kernel_rfl
theorem LimitBounds_tab {W : World} (h : laidMetH Tryd.prog Rows.limitBoundsRow.laid W) : Lib.TabIs Tryd.prog W "roundhouse/limit.flags" .i64 [2, 4] :=
  Lib.tabIs_of_head (rest := []) gTab gTabType Tryd.underlying107 Tryd.underlying3 cellsE cellsT h
theorem LimitBounds_rd {W : World} (h : laidMetH Tryd.prog Rows.limitBoundsRow.laid W) : Rd [Old W] 0 0 Lm.flV := Rd.old .here (fun j v e => by
  rcases j with _ | _ | j
  · simp at e; subst e; exact (LimitBounds_tab h).cell gTab 0 (by decide)
  · simp at e; subst e; exact (LimitBounds_tab h).cell gTab 1 (by decide)
  · simp at e)
noncomputable def laidWorld (os : Os) : World :=
  { World.holding Tryd.prog os ⟨#[], #[], []⟩ with heap := (World.holding Tryd.prog os ⟨#[], #[], []⟩).heap.modify 0 fun
      | .cells _ t frozen => .cells #[.int .i64 2, .int .i64 4] t frozen
      | o => o }
theorem laid_met (os : Os) : laidMet Tryd.prog Rows.limitBoundsRow.laid ((laidWorld os).forCall (fun _ _ => 0) ⟨#[], #[.agg #[.int .i64 0, .int .u64 0, .int .i64 0], .agg #[.int .i64 0, .int .u64 0, .int .i64 0], .slice none 0 0], []⟩).memory :=
  laidMet_of_run' 8 (by kernel_rfl) (by kernel_rfl)
set_option maxRecDepth 100000 in
theorem LimitBounds_contract (H : Type) (enc : TypeId × Value → H) (W : World) (base : Nat) (args : Array Value) (ds gs : List (DataW H)) (before : List MemPlace)
    (hval : ∀ (j : Nat) t v, Tryd.f5.params[j]? = some t → args[j]? = some v → Value.okWide Tryd.prog W .any base t v)
    (hW : DataW.Whole enc Tryd.prog Tryd.f5.params.toList Rows.limitBoundsSpec.vars false W args.toList ds gs before) (hL : laidMetH Tryd.prog Rows.limitBoundsRow.laid W) :
    Calls Tryd.prog 5 args W fun e W' => ∃ v, e = .returned v ∧ Rows.limitBoundsSpec.post enc Tryd.prog Tryd.f5 false true false false W args v W' := by
  have hW' := hW
  obtain ⟨p, q, hA0, hV, rfl, hfz, hnd⟩ := hW
  have hA : DataW.TrodAll enc Tryd.prog W 0 (fun _ => true) true Tryd.f5.params.toList args.toList ds p := hA0
  obtain ⟨rfl, rfl⟩ := trodVars_none hV
  simp only [List.append_nil] at hW'
  have hA1 := hA
  rw [Tryd.params5] at hA hval
  obtain ⟨v0, l0, d0, ds0, p0, q0, ha0, rfl, rfl, h0, hA⟩ := trodAll_cons hA
  obtain ⟨v1, l1, d1, ds1, p1, q1, rfl, rfl, rfl, h1, hA⟩ := trodAll_cons hA
  obtain ⟨v2, l2, d2, ds2, p2, q2, rfl, rfl, rfl, h2, hA⟩ := trodAll_cons hA
  obtain ⟨rfl, rfl, rfl⟩ := trodAll_nil hA
  obtain rfl : args = #[v0, v1, v2] := by cases args; simp_all
  obtain ⟨x0, e0, o0⟩ := open_arg (s := .struct (.fld (.int .i64) (.fld (.int .u64) (.fld (.int .i64) .nil)))) (by kernel_rfl) (hval 0 _ _ rfl rfl) h0
  have e0 := okW_agg (l := (.fld (.int .i64) (.fld (.int .u64) (.fld (.int .i64) .nil)))) (by kernel_rfl) (hval 0 _ _ rfl rfl) e0
  subst e0
  obtain ⟨x1, e1, o1⟩ := open_arg (s := .struct (.fld (.int .i64) (.fld (.int .u64) (.fld (.int .i64) .nil)))) (by kernel_rfl) (hval 1 _ _ rfl rfl) h1
  have e1 := okW_agg (l := (.fld (.int .i64) (.fld (.int .u64) (.fld (.int .i64) .nil)))) (by kernel_rfl) (hval 1 _ _ rfl rfl) e1
  subst e1
  obtain ⟨x2, e2, o2⟩ := open_arg (s := .slice (.int .u16)) (by kernel_rfl) (hval 2 _ _ rfl rfl) h2
  have e2 := okW_one (s := .slice (.int .u16)) (by kernel_rfl) rfl (hval 2 _ _ rfl rfl) e2
  simp only [Sh.enc, List.cons.injEq, and_true] at e2
  subst e2
  have hF := LimitBounds_rd hL
  refine (law_calls (Lm.lbounds_ct [Old W] hF ⟨x0.1, x0.2.1, x0.2.2.1⟩ ⟨x1.1, x1.2.1, x1.2.2.1⟩ x2.ad x2.cap x2.l (rd_ints o2) o2.2.2.2.2)).mono fun e W' ⟨he, hb⟩ => ?_
  subst he
  exact ⟨_, rfl, law_post Tryd.laidOut rfl Tryd.underlying4 rfl rfl (of_decide_eq_true (by kernel_rfl)) hW' hA1 hb⟩
set_option maxRecDepth 100000 in
theorem LimitBounds_lifted (os : Os) (started : os.Started) (H : Type) (enc : TypeId × Value → H) (F : Stop.Interp) :
    ReturnsInHanded {} Tryd.checked os 5 .any ((OpenSpec.ofChange Rows.limitBoundsSpec).preRow enc Tryd.prog Tryd.f5 Rows.limitBoundsRow.domain false Rows.limitBoundsRow.laid) (((OpenSpec.ofChange Rows.limitBoundsSpec).at F).post enc Tryd.prog Tryd.f5 false true false false) := by
  have hsome : (DataW.whole enc Tryd.prog ((laidWorld os).forCall (fun _ _ => 0) ⟨#[], #[.agg #[.int .i64 0, .int .u64 0, .int .i64 0], .agg #[.int .i64 0, .int .u64 0, .int .i64 0], .slice none 0 0], []⟩).memory Tryd.f5.params.toList Rows.limitBoundsSpec.vars false (#[.agg #[.int .i64 0, .int .u64 0, .int .i64 0], .agg #[.int .i64 0, .int .u64 0, .int .i64 0], .slice none 0 0] : Array Value).toList 8).isSome = true := by kernel_rfl
  obtain ⟨x0, hx⟩ := Option.isSome_iff_exists.1 hsome
  refine returnsInHanded_of_row (C := Tryd.checked) (s := OpenSpec.ofChange Rows.limitBoundsSpec) Tryd.own started (by kernel_rfl) Tryd.func5
    (witness_row_at (enc := enc) (C := Tryd.checked) false (laidWorld os) #[.agg #[.int .i64 0, .int .u64 0, .int .i64 0], .agg #[.int .i64 0, .int .u64 0, .int .i64 0], .slice none 0 0] rfl (by kernel_rfl) (by kernel_rfl) (by kernel_rfl)
      (OpenSpec.preRow_of_cond 8 hx rfl (fun k hk => by cases hk) (by kernel_rfl) (laid_met os))) ?_
  intro W base args ds gs before hval hW _ _ _ hL _ _
  exact LimitBounds_contract H enc W base args ds gs before hval hW hL
theorem LimitBounds_said : Rows.LimitBoundsSaid :=
  OpenClaim.holds_of_cond 5 Tryd.f5 rfl rfl rfl rfl rfl rfl rfl ⟨rfl, rfl, rfl, rfl, rfl⟩ rfl rfl rfl rfl rfl (by kernel_rfl) Tryd.func5 (by kernel_rfl)
    (of_decide_eq_true (by kernel_rfl)) (by unfold Func.isWrapper; first | (rw [if_pos (by decide +kernel)]; kernel_rfl) | (rw [if_neg (by decide +kernel)]; exact ⟨rfl, rfl⟩))
    (fun os started H enc _ F => by rw [OpenClaim.pre_eq_preRow]; exact LimitBounds_lifted os started H enc F)
theorem LimitBounds_plain (f : FuncId) (fn : Func) (hf : Tryd.pinned.checked.prog.funcNamed "roundhouse/roundhouselaw27.LimitBounds" = some f) (hfn : Tryd.pinned.checked.prog.funcs[f]? = some fn) :
    false = Tryd.pinned.checked.prog.looks [] ∧ ∀ (j : Nat) t, fn.params[j]? = some t → Tryd.pinned.checked.prog.wantsStandIn t = false := by
  obtain rfl : f = 5 := Option.some.inj ((show Tryd.prog.funcNamed "roundhouse/roundhouselaw27.LimitBounds" = some 5 by kernel_rfl).symm.trans hf) |>.symm
  obtain rfl : fn = Tryd.f5 := (Option.some.inj (Tryd.func5.symm.trans hfn)).symm
  refine ⟨by kernel_rfl, fun j t ht => ?_⟩
  have hall : Tryd.f5.params.all (fun t => !Tryd.prog.wantsStandIn t) = true := by kernel_rfl
  have := Array.all_eq_true.1 hall j (Array.getElem?_eq_some_iff.1 ht).1
  rw [(Array.getElem?_eq_some_iff.1 ht).2] at this
  have h2 : Tryd.prog.wantsStandIn t = false := by simpa using this
  exact h2
theorem LimitBounds_holds : Rows.LimitBoundsCardSaid :=
  Claim7.holds_tied_plain_at .later [] _ _ _ _ LimitBounds_said (fun _ h => by cases h) (by kernel_rfl) (fun _ h => by cases h) limitBounds_row_tie rfl ⟨rfl, rfl⟩ (by kernel_rfl) rfl LimitBounds_plain (by kernel_rfl)
end Go.Proofs.YtmpemhbfgbochaaDoor
