/- What is handed on, the input behind it, and what stands in the wire, are what the other end wrote, and what that read, the wire and the output are what was written here: the law BufevBytes answers true, whatever its input, and its arguments read behind the call as before. No condition. -/
import Derived.Lib.SmallJoins
import Derived.Test.YtmpemhbfgbochaaZBufevBytesH
namespace Go.Proofs.Ytmpemhbfgbochaa
set_option linter.unusedSimpArgs false
set_option linter.unusedVariables false
set_option linter.unnecessarySimpa false
open Go.RX Fx
namespace Bu
open Wo
set_option maxRecDepth 8000
theorem readA_len (x : BfA) (m : Int) : (readA x m).length ≤ (x.s 0).c.length := by
  rw [(readB_c x m).2.2.2.2.1, List.length_take]; omega
set_option maxHeartbeats 2000000 in
theorem bbytes_ct (L : List SP) (cp : Int) (ad : Option Addr) (c : Nat) (xs : List Cv) (hR : RdS L 13 ad xs.length (xs.flatMap encC)) (hok : ∀ o ∈ xs, CvOk L o) : Ct Try.prog 7 #[.int .i64 cp, .slice ad xs.length c] (L) (fun _ : Unit => .bool true) (fun _ : Unit => L) := by
  refine Ct.of (vs := [.int .i64 cp, .slice ad xs.length c]) Try.func7 rfl rfl [(0, .int .i64 cp), (1, .slice ad xs.length c)] (by repeat (first | exact trivial | refine ⟨rfl, ?_⟩)) ?_
  intro E
  show Hd E 233 _ _ _ _
  refine Hd.seq (fun K1 hK1 => ?_)
  refine Hd.region ?_
  refine Hd.yv (y_assign rfl) ?_
  refine Hd.nil ?_
  refine Hd.slots [(0, _), (1, _)] ⟨rfl, rfl, trivial⟩ ?_
  refine Hd.toK hK1 ?_
  refine Hd.seq (fun K2 hK2 => ?_)
  refine Hd.region ?_
  refine Hd.callE rfl fk8 (alive_ct _) (Ent.sep enn) ?_
  intro _
  refine Hd.yv (y_assign rfl) ?_
  refine Hd.nil ?_
  refine Hd.slots [(0, _), (1, _), (5, _)] ⟨rfl, rfl, rfl, trivial⟩ ?_
  refine Hd.toK hK2 ?_
  refine Hd.seq (fun K3 hK3 => ?_)
  refine Hd.seq (fun K4 hK4 => ?_)
  refine Hd.region ?_
  refine Hd.yv (y_move rfl) ?_
  refine Hd.callE rfl fk9 (great26_ct _ none 0 [] (RdS.none _ _ _) ad c xs ?hD) (Ent.sep enn) ?_
  case hD => exact RdS.mono hR (Ent.sep enn)
  intro g
  refine Hd.pure (fun hgr => ?_)
  refine Hd.yv (y_gtr rfl rfl) ?_
  refine Hd.yv (y_move rfl) ?_
  apply Hd.org 3 28 31 [(0, _), (1, _), (5, _)] rfl ⟨rfl, rfl, rfl, trivial⟩
  · intro hg2_28
    try simp only [decide_eq_true_eq, decide_eq_false_iff_not, Bool.and_eq_true, Bool.or_eq_true, Bool.and_eq_false_iff, Bool.or_eq_false_iff, Bool.not_eq_true', Bool.not_eq_false', Bool.not_eq_true, Bool.not_eq_false, Int.not_lt, Int.not_le, Decidable.not_not, ne_eq] at hg2_28
    simp only [List.take]
    refine Hd.ng rfl rfl rfl ?_
    refine Hd.ng rfl rfl rfl ?_
    first | (refine Hd.yv (y_pickT rfl rfl) ?_) | (refine Hd.yv (y_pickF rfl rfl) ?_) | (refine Hd.yv (y_pickb rfl rfl rfl) ?_) | (refine Hd.yv (y_pick rfl rfl rfl) ?_)
    refine Hd.nil ?_
    exact Hd.mend (by repeat (first | exact trivial | refine ⟨rfl, ?_⟩)) (Ent.sep enn)
  · intro hg2_28
    try simp only [decide_eq_true_eq, decide_eq_false_iff_not, Bool.and_eq_true, Bool.or_eq_true, Bool.and_eq_false_iff, Bool.or_eq_false_iff, Bool.not_eq_true', Bool.not_eq_false', Bool.not_eq_true, Bool.not_eq_false, Int.not_lt, Int.not_le, Decidable.not_not, ne_eq] at hg2_28
    simp only [List.take]
    refine Hd.yg rfl rfl (y_move rfl) ?_
    refine Hd.yg rfl rfl (y_lss rfl rfl) ?_
    first | (refine Hd.yv (y_pickT rfl rfl) ?_) | (refine Hd.yv (y_pickF rfl rfl) ?_) | (refine Hd.yv (y_pickb rfl rfl rfl) ?_) | (refine Hd.yv (y_pick rfl rfl rfl) ?_)
    refine Hd.nil ?_
    exact Hd.mend (by repeat (first | exact trivial | refine ⟨rfl, ?_⟩)) (Ent.sep enn)
  simp only [List.drop]
  refine Hd.yv (y_move rfl) ?_
  apply Hd.org 3 32 35 [(0, _), (1, _), (5, _)] rfl ⟨rfl, rfl, rfl, trivial⟩
  · intro hg2_32
    try simp only [decide_eq_true_eq, decide_eq_false_iff_not, Bool.and_eq_true, Bool.or_eq_true, Bool.and_eq_false_iff, Bool.or_eq_false_iff, Bool.not_eq_true', Bool.not_eq_false', Bool.not_eq_true, Bool.not_eq_false, Int.not_lt, Int.not_le, Decidable.not_not, ne_eq] at hg2_32
    simp only [List.take]
    refine Hd.ng rfl rfl rfl ?_
    refine Hd.ng rfl rfl rfl ?_
    first | (refine Hd.yv (y_pickT rfl rfl) ?_) | (refine Hd.yv (y_pickF rfl rfl) ?_) | (refine Hd.yv (y_pickb rfl rfl rfl) ?_) | (refine Hd.yv (y_pick rfl rfl rfl) ?_)
    refine Hd.nil ?_
    exact Hd.mend (by repeat (first | exact trivial | refine ⟨rfl, ?_⟩)) (Ent.sep enn)
  · intro hg2_32
    try simp only [decide_eq_true_eq, decide_eq_false_iff_not, Bool.and_eq_true, Bool.or_eq_true, Bool.and_eq_false_iff, Bool.or_eq_false_iff, Bool.not_eq_true', Bool.not_eq_false', Bool.not_eq_true, Bool.not_eq_false, Int.not_lt, Int.not_le, Decidable.not_not, ne_eq] at hg2_32
    simp only [List.take]
    refine Hd.yg rfl rfl (y_move rfl) ?_
    refine Hd.yg rfl rfl (y_gtr rfl rfl) ?_
    first | (refine Hd.yv (y_pickT rfl rfl) ?_) | (refine Hd.yv (y_pickF rfl rfl) ?_) | (refine Hd.yv (y_pickb rfl rfl rfl) ?_) | (refine Hd.yv (y_pick rfl rfl rfl) ?_)
    refine Hd.nil ?_
    exact Hd.mend (by repeat (first | exact trivial | refine ⟨rfl, ?_⟩)) (Ent.sep enn)
  simp only [List.drop]
  refine Hd.yv (y_move rfl) ?_
  apply Hd.org 3 36 39 [(0, _), (1, _), (5, _)] rfl ⟨rfl, rfl, rfl, trivial⟩
  · intro hg2_36
    try simp only [decide_eq_true_eq, decide_eq_false_iff_not, Bool.and_eq_true, Bool.or_eq_true, Bool.and_eq_false_iff, Bool.or_eq_false_iff, Bool.not_eq_true', Bool.not_eq_false', Bool.not_eq_true, Bool.not_eq_false, Int.not_lt, Int.not_le, Decidable.not_not, ne_eq] at hg2_36
    simp only [List.take]
    refine Hd.ng rfl rfl rfl ?_
    refine Hd.ng rfl rfl rfl ?_
    first | (refine Hd.yv (y_pickT rfl rfl) ?_) | (refine Hd.yv (y_pickF rfl rfl) ?_) | (refine Hd.yv (y_pickb rfl rfl rfl) ?_) | (refine Hd.yv (y_pick rfl rfl rfl) ?_)
    refine Hd.nil ?_
    exact Hd.mend (by repeat (first | exact trivial | refine ⟨rfl, ?_⟩)) (Ent.sep enn)
  · intro hg2_36
    try simp only [decide_eq_true_eq, decide_eq_false_iff_not, Bool.and_eq_true, Bool.or_eq_true, Bool.and_eq_false_iff, Bool.or_eq_false_iff, Bool.not_eq_true', Bool.not_eq_false', Bool.not_eq_true, Bool.not_eq_false, Int.not_lt, Int.not_le, Decidable.not_not, ne_eq] at hg2_36
    simp only [List.take]
    refine Hd.yg rfl rfl (y_move rfl) ?_
    refine Hd.yg rfl rfl (y_not rfl) ?_
    first | (refine Hd.yv (y_pickT rfl rfl) ?_) | (refine Hd.yv (y_pickF rfl rfl) ?_) | (refine Hd.yv (y_pickb rfl rfl rfl) ?_) | (refine Hd.yv (y_pick rfl rfl rfl) ?_)
    refine Hd.nil ?_
    exact Hd.mend (by repeat (first | exact trivial | refine ⟨rfl, ?_⟩)) (Ent.sep enn)
  simp only [List.drop]
  refine Hd.nil ?_
  refine Hd.slots [(0, _), (1, _), (5, _), (39, _)] ⟨rfl, rfl, rfl, rfl, trivial⟩ ?_
  refine Hd.toK hK4 ?_
  refine Hd.cond rfl (fun hc0 => ?_) (fun hc0 => ?_)
  ·
    try simp only [decide_eq_true_eq, decide_eq_false_iff_not, Bool.and_eq_true, Bool.or_eq_true, Bool.and_eq_false_iff, Bool.or_eq_false_iff, Bool.not_eq_true', Bool.not_eq_false', Bool.not_eq_true, Bool.not_eq_false, Int.not_lt, Int.not_le, Decidable.not_not, ne_eq] at hc0
    refine Hd.seq (fun K5 hK5 => ?_)
    refine Hd.region ?_
    refine Hd.yv (y_move rfl) ?_
    refine Hd.yv (y_assign rfl) ?_
    refine Hd.nil ?_
    refine Hd.slots [(4, _)] ⟨rfl, trivial⟩ ?_
    refine Hd.toK hK5 ?_
    refine Hd.ret ?_
    refine Hd.thenRet ?_
    clear hK1 hK2 hK3 hK4 hK5
    exact Hd.ret1 rfl () (by first | rfl | (simp only [*]; done) | (simp [*]; done)) (Ent.sep enn)
  ·
    try simp only [decide_eq_true_eq, decide_eq_false_iff_not, Bool.and_eq_true, Bool.or_eq_true, Bool.and_eq_false_iff, Bool.or_eq_false_iff, Bool.not_eq_true', Bool.not_eq_false', Bool.not_eq_true, Bool.not_eq_false, Int.not_lt, Int.not_le, Decidable.not_not, ne_eq] at hc0
    have hgr2 := (hgr (by omega)).2
    obtain ⟨hx, hbs⟩ := hgr2
    have hcp : 1 ≤ cp ∧ cp ≤ 500 := by omega
    clear hc0
    obtain ⟨n, rfl⟩ : ∃ n : Nat, cp = (n : Int) := ⟨cp.toNat, by omega⟩
    have hn1 : 1 ≤ n ∧ n ≤ 500 := by omega
    refine Hd.skip ?_
    refine Hd.toK hK3 ?_
    refine Hd.seq (fun K6 hK6 => ?_)
    refine Hd.region ?_
    refine Hd.callE rfl fk10 (wnew_ct _) (Ent.sep enn) ?_
    intro wb
    refine Hd.yv (y_assign rfl) ?_
    refine Hd.nil ?_
    refine Hd.slots [(0, _), (1, _), (5, _), (6, _)] ⟨rfl, rfl, rfl, rfl, trivial⟩ ?_
    refine Hd.toK hK6 ?_
    refine Hd.seq (fun K7 hK7 => ?_)
    refine Hd.region ?_
    refine Hd.yv (y_move rfl) ?_
    refine Hd.yv (y_move rfl) ?_
    refine Hd.callE rfl fk11 (pair_ct _ wb newA n (by omega) (by omega)) (Ent.sep enn) ?_
    intro _
    refine Hd.nil ?_
    refine Hd.slots [(1, _), (5, _), (6, _)] ⟨rfl, rfl, rfl, trivial⟩ ?_
    refine Hd.toK hK7 ?_
    refine Hd.seq (fun K8 hK8 => ?_)
    refine Hd.region ?_
    refine Hd.yv (y_move rfl) ?_
    refine Hd.callE rfl fk12 (bnew_ct _ wb (pairA n) 0 (op_pr (pr_new n))) (Ent.sep enn) ?_
    intro b
    refine Hd.yv (y_move rfl) ?_
    refine Hd.yv (y_extract rfl rfl) ?_
    refine Hd.yv (y_extract rfl rfl) ?_
    refine Hd.yv (y_assign rfl) ?_
    refine Hd.yv (y_assign rfl) ?_
    refine Hd.nil ?_
    refine Hd.slots [(1, _), (5, _), (6, _), (7, _), (8, _)] ⟨rfl, rfl, rfl, rfl, rfl, trivial⟩ ?_
    refine Hd.toK hK8 ?_
    refine Hd.seq (fun K9 hK9 => ?_)
    refine Hd.seq (fun K10 hK10 => ?_)
    refine Hd.region ?_
    refine Hd.yv (y_move rfl) ?_
    refine Hd.yv (y_to (y_neq rfl rfl) (congrArg Value.bool (decide_eq_false ((by simp))))) ?_
    refine Hd.nil ?_
    refine Hd.slots [(1, _), (5, _), (6, _), (7, _), (51, _)] ⟨rfl, rfl, rfl, rfl, rfl, trivial⟩ ?_
    refine Hd.toK hK10 ?_
    refine Hd.condF rfl ?_
    refine Hd.skip ?_
    refine Hd.toK hK9 ?_
    refine Hd.seq (fun K11 hK11 => ?_)
    refine Hd.region ?_
    refine Hd.yv (y_move rfl) ?_
    refine Hd.yv (y_build (vs := [(0, _)]) rfl (by first | exact bd7_53 .. | kernel_rfl)) ?_
    refine Hd.box rfl rfl (fun b54 => ?_)
    refine Hd.yv (y_assign rfl) ?_
    refine Hd.nil ?_
    refine Hd.slots [(1, _), (5, _), (7, _), (9, _)] ⟨rfl, rfl, rfl, rfl, trivial⟩ ?_
    refine Hd.toK hK11 ?_
    refine Hd.seq (fun K12 hK12 => ?_)
    refine Hd.heap (BufP b wb (newB 0) :: WorldP wb (pairA n) :: PpP b54 wb [] [] :: L) (fun k' s => Ent.sep (.pick pkk (.pick pkk (.eq pkk (pt_eq (by rfl)) enn))) k' s) ?_
    refine Hd.region ?_
    refine Hd.yv (y_assign rfl) ?_
    refine Hd.nil ?_
    refine Hd.slots [(1, _), (5, _), (7, _), (9, _), (10, _)] ⟨rfl, rfl, rfl, rfl, rfl, trivial⟩ ?_
    refine Hd.toK hK12 ?_
    refine Hd.seq (fun K13 hK13 => ?_)
    refine Hd.region ?_
    refine Hd.yv (y_assign rfl) ?_
    refine Hd.nil ?_
    refine Hd.slots [(1, _), (5, _), (7, _), (9, _), (10, _), (11, _)] ⟨rfl, rfl, rfl, rfl, rfl, rfl, trivial⟩ ?_
    refine Hd.toK hK13 ?_
    refine Hd.seq (fun K14 hK14 => ?_)
    refine Hd.seq (fun K15 hK15 => ?_)
    refine Hd.region ?_
    refine Hd.yv (y_assign rfl) ?_
    refine Hd.nil ?_
    refine Hd.slots [(1, _), (5, _), (7, _), (9, _), (10, _), (11, _), (12, _)] ⟨rfl, rfl, rfl, rfl, rfl, rfl, rfl, trivial⟩ ?_
    refine Hd.toK hK15 ?_
    refine Hd.block ?_
    refine Hd.loopK (ι := Nat × ByA) [(1, _), (5, _), (7, _), (9, _)] (fun q_ => [(10, .string (str q_.2.h)), (11, .string (str q_.2.v)), (12, .int .i64 (q_.1 : Int))]) (fun q_ => pu (q_.1 ≤ xs.length ∧ ByI n q_.2 ∧ ByB q_.1 q_.2) :: BufP b wb q_.2.x :: WorldP wb q_.2.w :: PpP b54 wb q_.2.q q_.2.r :: L) (fun q_ => xs.length - q_.1) (0, ⟨newB 0, pairA n, fun _ => [], [], [], [], []⟩) (by repeat (first | exact trivial | refine ⟨rfl, ?_⟩)) (by repeat (first | exact trivial | refine ⟨rfl, ?_⟩)) (Ent.sep (.pure ⟨Nat.zero_le _, by_new, ⟨Nat.zero_le _, Nat.zero_le _⟩⟩ enn)) ?_
    rintro ⟨i, s⟩
    try dsimp only
    refine Hd.pure (fun hp0 => ?_)
    try dsimp only at hp0
    refine Hd.seq (fun K16 hK16 => ?_)
    refine Hd.seq (fun K17 hK17 => ?_)
    refine Hd.region ?_
    refine Hd.yv (y_move rfl) ?_
    refine Hd.yv (y_move rfl) ?_
    refine Hd.yv (y_len Try.underlying22 rfl) ?_
    refine Hd.yv (y_lss rfl rfl) ?_
    refine Hd.nil ?_
    refine Hd.slots [(1, _), (5, _), (7, _), (9, _), (10, _), (11, _), (12, _), (58, _)] ⟨rfl, rfl, rfl, rfl, rfl, rfl, rfl, rfl, trivial⟩ ?_
    refine Hd.toK hK17 ?_
    refine Hd.cond rfl (fun hc2 => ?_) (fun hc2 => ?_)
    ·
      try simp only [decide_eq_true_eq, decide_eq_false_iff_not, Bool.and_eq_true, Bool.or_eq_true, Bool.and_eq_false_iff, Bool.or_eq_false_iff, Bool.not_eq_true', Bool.not_eq_false', Bool.not_eq_true, Bool.not_eq_false, Int.not_lt, Int.not_le, Decidable.not_not, ne_eq] at hc2
      obtain ⟨_, hI, hB⟩ := hp0
      have hi : i < xs.length := by omega
      obtain ⟨o, ho⟩ : ∃ o, xs[i]? = some o := ⟨_, List.getElem?_eq_getElem hi⟩
      have hoo := hok o (List.mem_of_getElem? ho)
      have hbo := hbs o (List.mem_of_getElem? ho)
      have hon := hoo.n
      have hL := hI.len
      have hB1 := hB.1
      have hB2 := hB.2
      have hRl := readA_len s.x o.n
      simp only [InK] at hon
      refine Hd.skip ?_
      refine Hd.toK hK16 ?_
      refine Hd.cutK (ι := ByA) [(1, _), (5, _), (7, _), (9, _), (12, _)] (fun j => [(10, .string (str j.h)), (11, .string (str j.v))]) (fun j => pu (ByI n j ∧ ByB (i + 1) j) :: BufP b wb j.x :: WorldP wb j.w :: PpP b54 wb j.q j.r :: L) ?_ ?_ ⟨rfl, rfl, rfl, rfl, rfl, trivial⟩
      ·
        refine Hd.block ?_
        refine Hd.seq (fun K18 hK18 => ?_)
        refine Hd.region ?_
        refine Hd.yv (y_move rfl) ?_
        refine Hd.yv (y_move rfl) ?_
        first | (refine Hd.yv (y_idxS Try.underlying22 sz43 rfl rfl (by first | omega | decide)) ?_) | (refine Hd.yv (y_idxR Try.underlying22 sz43 rfl rfl (by first | omega | decide) (by (first | exact RdS.own pkk | exact RdS.mono hR (Ent.sep enn) | exact RdS.mono hoo.rd (Ent.sep enn)))) ?_)
        refine Hd.yv (y_loadRn (vs := [_, _, _, _, _, _, _, _, _, _, _, _, _]) ag43 rfl (RdS.mono hR (Ent.sep enn)) (flat_cells encC 13 (fun _ => rfl) ho) (by exact sz43) (by simp)) ?_
        refine Hd.alloc zr43 (fun b13 => ?_)
        refine Hd.storeA (us := encC o) sz43 rfl rfl rfl (by simp [Value.oneCell']) pkk (by exact rfl) ?_
        refine Hd.nil ?_
        refine Hd.slots [(1, _), (5, _), (7, _), (9, _), (10, _), (11, _), (12, _), (13, _)] ⟨rfl, rfl, rfl, rfl, rfl, rfl, rfl, rfl, trivial⟩ ?_
        refine Hd.toK hK18 ?_
        refine Hd.seq (fun K19 hK19 => ?_)
        refine Hd.region ?_
        first | (refine Hd.yv (y_field' (q := 0) (ft := 3) Try.underlying43 rfl sz3 rfl rfl) ?_) | (refine Hd.yv (y_fieldR (q := 0) (ft := 3) Try.underlying43 rfl sz3 rfl rfl) ?_)
        first | (refine Hd.yv (y_load1 ag3 rfl (Rd.pt1 pkk (by (first | rfl)))) ?_) | (refine Hd.yv (y_load1 ag3 rfl (Rd.seg1 pkk (by (first | rfl)))) ?_) | (refine Hd.yv (y_load1 ag3 rfl (Rd.segK1 pkk (by decide) (by (first | rfl)))) ?_) | (refine Hd.yv (y_loadR1 ag3 rfl (by (first | exact RdS.own pkk | exact RdS.mono hR (Ent.sep enn) | exact RdS.mono hoo.rd (Ent.sep enn))) (by (first | rfl))) ?_)
        refine Hd.nil ?_
        refine Hd.slots [(1, _), (5, _), (7, _), (9, _), (10, _), (11, _), (12, _), (13, _), (66, _)] ⟨rfl, rfl, rfl, rfl, rfl, rfl, rfl, rfl, rfl, trivial⟩ ?_
        refine Hd.toK hK19 ?_
        refine Hd.block ?_
        refine Hd.seq (fun K20 hK20 => ?_)
        refine Hd.region ?_
        first | (refine Hd.yv (y_eqlT rfl rfl) ?_) | (refine Hd.yv (y_eql rfl rfl) ?_)
        refine Hd.yv (y_assign rfl) ?_
        refine Hd.nil ?_
        refine Hd.slots [(1, _), (5, _), (7, _), (9, _), (10, _), (11, _), (12, _), (13, _), (66, _), (67, _)] ⟨rfl, rfl, rfl, rfl, rfl, rfl, rfl, rfl, rfl, rfl, trivial⟩ ?_
        refine Hd.toK hK20 ?_
        refine Hd.cond rfl (fun hc3 => ?_) (fun hc3 => ?_)
        ·
          try simp only [decide_eq_true_eq, decide_eq_false_iff_not, Bool.and_eq_true, Bool.or_eq_true, Bool.and_eq_false_iff, Bool.or_eq_false_iff, Bool.not_eq_true', Bool.not_eq_false', Bool.not_eq_true, Bool.not_eq_false, Int.not_lt, Int.not_le, Decidable.not_not, ne_eq] at hc3
          refine Hd.region ?_
          refine Hd.yv (y_move rfl) ?_
          first | (refine Hd.yv (y_field' (q := 1) (ft := 35) Try.underlying43 rfl sz35 rfl rfl) ?_) | (refine Hd.yv (y_fieldR (q := 1) (ft := 35) Try.underlying43 rfl sz35 rfl rfl) ?_)
          first | (refine Hd.yv (y_load1 ag35 rfl (Rd.pt1 pkk (by (first | rfl)))) ?_) | (refine Hd.yv (y_load1 ag35 rfl (Rd.seg1 pkk (by (first | rfl)))) ?_) | (refine Hd.yv (y_load1 ag35 rfl (Rd.segK1 pkk (by decide) (by (first | rfl)))) ?_) | (refine Hd.yv (y_loadR1 ag35 rfl (by (first | exact RdS.own pkk | exact RdS.mono hR (Ent.sep enn) | exact RdS.mono hoo.rd (Ent.sep enn))) (by (first | rfl))) ?_)
          first | (refine Hd.yv (y_field' (q := 2) (ft := 3) Try.underlying43 rfl sz3 rfl rfl) ?_) | (refine Hd.yv (y_fieldR (q := 2) (ft := 3) Try.underlying43 rfl sz3 rfl rfl) ?_)
          first | (refine Hd.yv (y_load1 ag3 rfl (Rd.pt1 pkk (by (first | rfl)))) ?_) | (refine Hd.yv (y_load1 ag3 rfl (Rd.seg1 pkk (by (first | rfl)))) ?_) | (refine Hd.yv (y_load1 ag3 rfl (Rd.segK1 pkk (by decide) (by (first | rfl)))) ?_) | (refine Hd.yv (y_loadR1 ag3 rfl (by (first | exact RdS.own pkk | exact RdS.mono hR (Ent.sep enn) | exact RdS.mono hoo.rd (Ent.sep enn))) (by (first | rfl))) ?_)
          refine Hd.callE rfl fk14 (enable_ct _ b wb s.x hI.ok.tm o.now o.sd hoo.now) (Ent.sep enn) ?_
          intro _
          refine Hd.nil ?_
          refine Hd.slots [(1, _), (5, _), (7, _), (9, _), (10, _), (11, _), (12, _)] ⟨rfl, rfl, rfl, rfl, rfl, rfl, rfl, trivial⟩ ?_
          refine Hd.inB ?_
          refine Hd.inB ?_
          clear hK1 hK2 hK3 hK4 hK6 hK7 hK8 hK9 hK10 hK11 hK12 hK13 hK14 hK15 hK16 hK17 hK18 hK19 hK20
          refine Hd.thenN ?_
          exact Hd.meet { s with x := enB s.x o.now o.sd } (by repeat (first | exact trivial | refine ⟨rfl, ?_⟩)) (Ent.sep (.pure ⟨hI.same (smc_en _ _ _) (bok_en hI.ok hoo.now _), hB.up⟩ enn))
        ·
          try simp only [decide_eq_true_eq, decide_eq_false_iff_not, Bool.and_eq_true, Bool.or_eq_true, Bool.and_eq_false_iff, Bool.or_eq_false_iff, Bool.not_eq_true', Bool.not_eq_false', Bool.not_eq_true, Bool.not_eq_false, Int.not_lt, Int.not_le, Decidable.not_not, ne_eq] at hc3
          refine Hd.seq (fun K21 hK21 => ?_)
          refine Hd.region ?_
          first | (refine Hd.yv (y_eqlT rfl rfl) ?_) | (refine Hd.yv (y_eql rfl rfl) ?_)
          refine Hd.yv (y_assign rfl) ?_
          refine Hd.nil ?_
          refine Hd.slots [(1, _), (5, _), (7, _), (9, _), (10, _), (11, _), (12, _), (13, _), (66, _), (75, _)] ⟨rfl, rfl, rfl, rfl, rfl, rfl, rfl, rfl, rfl, rfl, trivial⟩ ?_
          refine Hd.toK hK21 ?_
          refine Hd.cond rfl (fun hc4 => ?_) (fun hc4 => ?_)
          ·
            try simp only [decide_eq_true_eq, decide_eq_false_iff_not, Bool.and_eq_true, Bool.or_eq_true, Bool.and_eq_false_iff, Bool.or_eq_false_iff, Bool.not_eq_true', Bool.not_eq_false', Bool.not_eq_true, Bool.not_eq_false, Int.not_lt, Int.not_le, Decidable.not_not, ne_eq] at hc4
            refine Hd.region ?_
            refine Hd.yv (y_move rfl) ?_
            first | (refine Hd.yv (y_field' (q := 2) (ft := 3) Try.underlying43 rfl sz3 rfl rfl) ?_) | (refine Hd.yv (y_fieldR (q := 2) (ft := 3) Try.underlying43 rfl sz3 rfl rfl) ?_)
            first | (refine Hd.yv (y_load1 ag3 rfl (Rd.pt1 pkk (by (first | rfl)))) ?_) | (refine Hd.yv (y_load1 ag3 rfl (Rd.seg1 pkk (by (first | rfl)))) ?_) | (refine Hd.yv (y_load1 ag3 rfl (Rd.segK1 pkk (by decide) (by (first | rfl)))) ?_) | (refine Hd.yv (y_loadR1 ag3 rfl (by (first | exact RdS.own pkk | exact RdS.mono hR (Ent.sep enn) | exact RdS.mono hoo.rd (Ent.sep enn))) (by (first | rfl))) ?_)
            refine Hd.callE rfl fk29 (disable_ct _ b wb s.x o.sd) (Ent.sep enn) ?_
            intro _
            refine Hd.nil ?_
            refine Hd.slots [(1, _), (5, _), (7, _), (9, _), (10, _), (11, _), (12, _)] ⟨rfl, rfl, rfl, rfl, rfl, rfl, rfl, trivial⟩ ?_
            refine Hd.inB ?_
            refine Hd.inB ?_
            clear hK1 hK2 hK3 hK4 hK6 hK7 hK8 hK9 hK10 hK11 hK12 hK13 hK14 hK15 hK16 hK17 hK18 hK19 hK20 hK21
            refine Hd.thenN ?_
            exact Hd.meet { s with x := disB s.x o.sd } (by repeat (first | exact trivial | refine ⟨rfl, ?_⟩)) (Ent.sep (.pure ⟨hI.same (smc_dis _ _) (bok_dis hI.ok _), hB.up⟩ enn))
          ·
            try simp only [decide_eq_true_eq, decide_eq_false_iff_not, Bool.and_eq_true, Bool.or_eq_true, Bool.and_eq_false_iff, Bool.or_eq_false_iff, Bool.not_eq_true', Bool.not_eq_false', Bool.not_eq_true, Bool.not_eq_false, Int.not_lt, Int.not_le, Decidable.not_not, ne_eq] at hc4
            refine Hd.seq (fun K22 hK22 => ?_)
            refine Hd.region ?_
            first | (refine Hd.yv (y_eqlT rfl rfl) ?_) | (refine Hd.yv (y_eql rfl rfl) ?_)
            refine Hd.yv (y_assign rfl) ?_
            refine Hd.nil ?_
            refine Hd.slots [(1, _), (5, _), (7, _), (9, _), (10, _), (11, _), (12, _), (13, _), (66, _), (81, _)] ⟨rfl, rfl, rfl, rfl, rfl, rfl, rfl, rfl, rfl, rfl, trivial⟩ ?_
            refine Hd.toK hK22 ?_
            refine Hd.cond rfl (fun hc5 => ?_) (fun hc5 => ?_)
            ·
              try simp only [decide_eq_true_eq, decide_eq_false_iff_not, Bool.and_eq_true, Bool.or_eq_true, Bool.and_eq_false_iff, Bool.or_eq_false_iff, Bool.not_eq_true', Bool.not_eq_false', Bool.not_eq_true, Bool.not_eq_false, Int.not_lt, Int.not_le, Decidable.not_not, ne_eq] at hc5
              refine Hd.region ?_
              refine Hd.yv (y_move rfl) ?_
              first | (refine Hd.yv (y_field' (q := 2) (ft := 3) Try.underlying43 rfl sz3 rfl rfl) ?_) | (refine Hd.yv (y_fieldR (q := 2) (ft := 3) Try.underlying43 rfl sz3 rfl rfl) ?_)
              first | (refine Hd.yv (y_load1 ag3 rfl (Rd.pt1 pkk (by (first | rfl)))) ?_) | (refine Hd.yv (y_load1 ag3 rfl (Rd.seg1 pkk (by (first | rfl)))) ?_) | (refine Hd.yv (y_load1 ag3 rfl (Rd.segK1 pkk (by decide) (by (first | rfl)))) ?_) | (refine Hd.yv (y_loadR1 ag3 rfl (by (first | exact RdS.own pkk | exact RdS.mono hR (Ent.sep enn) | exact RdS.mono hoo.rd (Ent.sep enn))) (by (first | rfl))) ?_)
              first | (refine Hd.yv (y_field' (q := 3) (ft := 3) Try.underlying43 rfl sz3 rfl rfl) ?_) | (refine Hd.yv (y_fieldR (q := 3) (ft := 3) Try.underlying43 rfl sz3 rfl rfl) ?_)
              first | (refine Hd.yv (y_load1 ag3 rfl (Rd.pt1 pkk (by (first | rfl)))) ?_) | (refine Hd.yv (y_load1 ag3 rfl (Rd.seg1 pkk (by (first | rfl)))) ?_) | (refine Hd.yv (y_load1 ag3 rfl (Rd.segK1 pkk (by decide) (by (first | rfl)))) ?_) | (refine Hd.yv (y_loadR1 ag3 rfl (by (first | exact RdS.own pkk | exact RdS.mono hR (Ent.sep enn) | exact RdS.mono hoo.rd (Ent.sep enn))) (by (first | rfl))) ?_)
              first | (refine Hd.yv (y_field' (q := 4) (ft := 3) Try.underlying43 rfl sz3 rfl rfl) ?_) | (refine Hd.yv (y_fieldR (q := 4) (ft := 3) Try.underlying43 rfl sz3 rfl rfl) ?_)
              first | (refine Hd.yv (y_load1 ag3 rfl (Rd.pt1 pkk (by (first | rfl)))) ?_) | (refine Hd.yv (y_load1 ag3 rfl (Rd.seg1 pkk (by (first | rfl)))) ?_) | (refine Hd.yv (y_load1 ag3 rfl (Rd.segK1 pkk (by decide) (by (first | rfl)))) ?_) | (refine Hd.yv (y_loadR1 ag3 rfl (by (first | exact RdS.own pkk | exact RdS.mono hR (Ent.sep enn) | exact RdS.mono hoo.rd (Ent.sep enn))) (by (first | rfl))) ?_)
              refine Hd.callE rfl fk13 (marks_ct _ b wb s.x o.sd o.n o.m) (Ent.sep enn) ?_
              intro _
              refine Hd.nil ?_
              refine Hd.slots [(1, _), (5, _), (7, _), (9, _), (10, _), (11, _), (12, _)] ⟨rfl, rfl, rfl, rfl, rfl, rfl, rfl, trivial⟩ ?_
              refine Hd.inB ?_
              refine Hd.inB ?_
              clear hK1 hK2 hK3 hK4 hK6 hK7 hK8 hK9 hK10 hK11 hK12 hK13 hK14 hK15 hK16 hK17 hK18 hK19 hK20 hK21 hK22
              refine Hd.thenN ?_
              exact Hd.meet { s with x := mrkB s.x o.sd o.n o.m } (by repeat (first | exact trivial | refine ⟨rfl, ?_⟩)) (Ent.sep (.pure ⟨hI.same (smc_mrk _ _ _ _) (bok_mrk hI.ok _ _ _), hB.up⟩ enn))
            ·
              try simp only [decide_eq_true_eq, decide_eq_false_iff_not, Bool.and_eq_true, Bool.or_eq_true, Bool.and_eq_false_iff, Bool.or_eq_false_iff, Bool.not_eq_true', Bool.not_eq_false', Bool.not_eq_true, Bool.not_eq_false, Int.not_lt, Int.not_le, Decidable.not_not, ne_eq] at hc5
              refine Hd.seq (fun K23 hK23 => ?_)
              refine Hd.region ?_
              first | (refine Hd.yv (y_eqlT rfl rfl) ?_) | (refine Hd.yv (y_eql rfl rfl) ?_)
              refine Hd.yv (y_assign rfl) ?_
              refine Hd.nil ?_
              refine Hd.slots [(1, _), (5, _), (7, _), (9, _), (10, _), (11, _), (12, _), (13, _), (66, _), (91, _)] ⟨rfl, rfl, rfl, rfl, rfl, rfl, rfl, rfl, rfl, rfl, trivial⟩ ?_
              refine Hd.toK hK23 ?_
              refine Hd.cond rfl (fun hc6 => ?_) (fun hc6 => ?_)
              ·
                try simp only [decide_eq_true_eq, decide_eq_false_iff_not, Bool.and_eq_true, Bool.or_eq_true, Bool.and_eq_false_iff, Bool.or_eq_false_iff, Bool.not_eq_true', Bool.not_eq_false', Bool.not_eq_true, Bool.not_eq_false, Int.not_lt, Int.not_le, Decidable.not_not, ne_eq] at hc6
                refine Hd.region ?_
                refine Hd.yv (y_move rfl) ?_
                first | (refine Hd.yv (y_field' (q := 1) (ft := 35) Try.underlying43 rfl sz35 rfl rfl) ?_) | (refine Hd.yv (y_fieldR (q := 1) (ft := 35) Try.underlying43 rfl sz35 rfl rfl) ?_)
                first | (refine Hd.yv (y_load1 ag35 rfl (Rd.pt1 pkk (by (first | rfl)))) ?_) | (refine Hd.yv (y_load1 ag35 rfl (Rd.seg1 pkk (by (first | rfl)))) ?_) | (refine Hd.yv (y_load1 ag35 rfl (Rd.segK1 pkk (by decide) (by (first | rfl)))) ?_) | (refine Hd.yv (y_loadR1 ag35 rfl (by (first | exact RdS.own pkk | exact RdS.mono hR (Ent.sep enn) | exact RdS.mono hoo.rd (Ent.sep enn))) (by (first | rfl))) ?_)
                first | (refine Hd.yv (y_field' (q := 5) (ft := 35) Try.underlying43 rfl sz35 rfl rfl) ?_) | (refine Hd.yv (y_fieldR (q := 5) (ft := 35) Try.underlying43 rfl sz35 rfl rfl) ?_)
                first | (refine Hd.yv (y_load1 ag35 rfl (Rd.pt1 pkk (by (first | rfl)))) ?_) | (refine Hd.yv (y_load1 ag35 rfl (Rd.seg1 pkk (by (first | rfl)))) ?_) | (refine Hd.yv (y_load1 ag35 rfl (Rd.segK1 pkk (by decide) (by (first | rfl)))) ?_) | (refine Hd.yv (y_loadR1 ag35 rfl (by (first | exact RdS.own pkk | exact RdS.mono hR (Ent.sep enn) | exact RdS.mono hoo.rd (Ent.sep enn))) (by (first | rfl))) ?_)
                first | (refine Hd.yv (y_field' (q := 6) (ft := 35) Try.underlying43 rfl sz35 rfl rfl) ?_) | (refine Hd.yv (y_fieldR (q := 6) (ft := 35) Try.underlying43 rfl sz35 rfl rfl) ?_)
                first | (refine Hd.yv (y_load1 ag35 rfl (Rd.pt1 pkk (by (first | rfl)))) ?_) | (refine Hd.yv (y_load1 ag35 rfl (Rd.seg1 pkk (by (first | rfl)))) ?_) | (refine Hd.yv (y_load1 ag35 rfl (Rd.segK1 pkk (by decide) (by (first | rfl)))) ?_) | (refine Hd.yv (y_loadR1 ag35 rfl (by (first | exact RdS.own pkk | exact RdS.mono hR (Ent.sep enn) | exact RdS.mono hoo.rd (Ent.sep enn))) (by (first | rfl))) ?_)
                refine Hd.callE rfl fk20 (timeouts_ct _ b wb s.x o.now o.t o.u hoo.now hoo.t hoo.u) (Ent.sep enn) ?_
                intro _
                refine Hd.nil ?_
                refine Hd.slots [(1, _), (5, _), (7, _), (9, _), (10, _), (11, _), (12, _)] ⟨rfl, rfl, rfl, rfl, rfl, rfl, rfl, trivial⟩ ?_
                refine Hd.inB ?_
                refine Hd.inB ?_
                clear hK1 hK2 hK3 hK4 hK6 hK7 hK8 hK9 hK10 hK11 hK12 hK13 hK14 hK15 hK16 hK17 hK18 hK19 hK20 hK21 hK22 hK23
                refine Hd.thenN ?_
                exact Hd.meet { s with x := tmB s.x o.now o.t o.u } (by repeat (first | exact trivial | refine ⟨rfl, ?_⟩)) (Ent.sep (.pure ⟨hI.same (smc_tm _ _ _ _) (bok_tms hI.ok hoo.now hoo.t hoo.u), hB.up⟩ enn))
              ·
                try simp only [decide_eq_true_eq, decide_eq_false_iff_not, Bool.and_eq_true, Bool.or_eq_true, Bool.and_eq_false_iff, Bool.or_eq_false_iff, Bool.not_eq_true', Bool.not_eq_false', Bool.not_eq_true, Bool.not_eq_false, Int.not_lt, Int.not_le, Decidable.not_not, ne_eq] at hc6
                refine Hd.seq (fun K24 hK24 => ?_)
                refine Hd.region ?_
                first | (refine Hd.yv (y_eqlT rfl rfl) ?_) | (refine Hd.yv (y_eql rfl rfl) ?_)
                refine Hd.yv (y_assign rfl) ?_
                refine Hd.nil ?_
                refine Hd.slots [(1, _), (5, _), (7, _), (9, _), (10, _), (11, _), (12, _), (13, _), (66, _), (101, _)] ⟨rfl, rfl, rfl, rfl, rfl, rfl, rfl, rfl, rfl, rfl, trivial⟩ ?_
                refine Hd.toK hK24 ?_
                refine Hd.cond rfl (fun hc7 => ?_) (fun hc7 => ?_)
                ·
                  try simp only [decide_eq_true_eq, decide_eq_false_iff_not, Bool.and_eq_true, Bool.or_eq_true, Bool.and_eq_false_iff, Bool.or_eq_false_iff, Bool.not_eq_true', Bool.not_eq_false', Bool.not_eq_true, Bool.not_eq_false, Int.not_lt, Int.not_le, Decidable.not_not, ne_eq] at hc7
                  refine Hd.seq (fun K25 hK25 => ?_)
                  refine Hd.region ?_
                  refine Hd.yv (y_move rfl) ?_
                  first | (refine Hd.yv (y_field' (q := 1) (ft := 35) Try.underlying43 rfl sz35 rfl rfl) ?_) | (refine Hd.yv (y_fieldR (q := 1) (ft := 35) Try.underlying43 rfl sz35 rfl rfl) ?_)
                  first | (refine Hd.yv (y_load1 ag35 rfl (Rd.pt1 pkk (by (first | rfl)))) ?_) | (refine Hd.yv (y_load1 ag35 rfl (Rd.seg1 pkk (by (first | rfl)))) ?_) | (refine Hd.yv (y_load1 ag35 rfl (Rd.segK1 pkk (by decide) (by (first | rfl)))) ?_) | (refine Hd.yv (y_loadR1 ag35 rfl (by (first | exact RdS.own pkk | exact RdS.mono hR (Ent.sep enn) | exact RdS.mono hoo.rd (Ent.sep enn))) (by (first | rfl))) ?_)
                  first | (refine Hd.yv (y_field' (q := 7) (ft := 39) Try.underlying43 rfl sz39 rfl rfl) ?_) | (refine Hd.yv (y_fieldR (q := 7) (ft := 39) Try.underlying43 rfl sz39 rfl rfl) ?_)
                  first | (refine Hd.yv (y_load1 ag39 rfl (Rd.pt1 pkk (by (first | rfl)))) ?_) | (refine Hd.yv (y_load1 ag39 rfl (Rd.seg1 pkk (by (first | rfl)))) ?_) | (refine Hd.yv (y_load1 ag39 rfl (Rd.segK1 pkk (by decide) (by (first | rfl)))) ?_) | (refine Hd.yv (y_loadR1 ag39 rfl (by (first | exact RdS.own pkk | exact RdS.mono hR (Ent.sep enn) | exact RdS.mono hoo.rd (Ent.sep enn))) (by (first | rfl))) ?_)
                  refine Hd.callE rfl fk19 (bwrite_ct _ b wb s.x hI.ok.tm o.now hoo.now o.ad o.b.length o.c o.b rfl ?hD hoo.c (by omega)) (Ent.sep enn) ?_
                  case hD => exact RdS.mono hoo.rd (Ent.sep enn)
                  intro _
                  refine Hd.yv (y_assign rfl) ?_
                  refine Hd.nil ?_
                  refine Hd.slots [(1, _), (5, _), (7, _), (9, _), (10, _), (11, _), (12, _), (13, _), (14, _)] ⟨rfl, rfl, rfl, rfl, rfl, rfl, rfl, rfl, rfl, trivial⟩ ?_
                  refine Hd.toK hK25 ?_
                  have hrl := roomB_len n (s.l 0) o.x.d
                  refine Hd.cutK (ι := Unit) [(1, _), (5, _), (7, _), (9, _), (10, _), (12, _), (13, _)] (fun _ => [(11, .string (str (byWr s o.now o.b).v))]) (fun _ => BufP b wb (byWr s o.now o.b).x :: WorldP wb s.w :: PpP b54 wb s.q s.r :: pt b13 (encC o) 43 :: L) ?_ ?_ ⟨rfl, rfl, rfl, rfl, rfl, rfl, rfl, trivial⟩
                  ·
                    refine Hd.seq (fun K26 hK26 => ?_)
                    refine Hd.region ?_
                    refine Hd.yv (y_move rfl) ?_
                    first | (refine Hd.yv (y_eqlT rfl rfl) ?_) | (refine Hd.yv (y_eql rfl rfl) ?_)
                    refine Hd.nil ?_
                    refine Hd.slots [(1, _), (5, _), (7, _), (9, _), (10, _), (11, _), (12, _), (13, _), (110, _)] ⟨rfl, rfl, rfl, rfl, rfl, rfl, rfl, rfl, rfl, trivial⟩ ?_
                    refine Hd.toK hK26 ?_
                    refine Hd.cond rfl (fun hc8 => ?_) (fun hc8 => ?_)
                    ·
                      try simp only [decide_eq_true_eq, decide_eq_false_iff_not, Bool.and_eq_true, Bool.or_eq_true, Bool.and_eq_false_iff, Bool.or_eq_false_iff, Bool.not_eq_true', Bool.not_eq_false', Bool.not_eq_true, Bool.not_eq_false, Int.not_lt, Int.not_le, Decidable.not_not, ne_eq] at hc8
                      refine Hd.region ?_
                      refine Hd.yv (y_move rfl) ?_
                      first | (refine Hd.yv (y_field' (q := 7) (ft := 39) Try.underlying43 rfl sz39 rfl rfl) ?_) | (refine Hd.yv (y_fieldR (q := 7) (ft := 39) Try.underlying43 rfl sz39 rfl rfl) ?_)
                      first | (refine Hd.yv (y_load1 ag39 rfl (Rd.pt1 pkk (by (first | rfl)))) ?_) | (refine Hd.yv (y_load1 ag39 rfl (Rd.seg1 pkk (by (first | rfl)))) ?_) | (refine Hd.yv (y_load1 ag39 rfl (Rd.segK1 pkk (by decide) (by (first | rfl)))) ?_) | (refine Hd.yv (y_loadR1 ag39 rfl (by (first | exact RdS.own pkk | exact RdS.mono hR (Ent.sep enn) | exact RdS.mono hoo.rd (Ent.sep enn))) (by (first | rfl))) ?_)
                      refine Hd.yv (y_strOf (l := _) (by kernel_rfl) Try.underlying9 rfl (by (first | exact RdS.own pkk | exact RdS.mono hR (Ent.sep enn) | exact RdS.mono hoo.rd (Ent.sep enn)))) ?_
                      refine Hd.yv (y_addstr rfl rfl (by first | omega | (omega) | (simp; omega) | (simp only [List.length_append, List.length_take, List.length_drop, List.length_cons, List.length_nil]; omega))) ?_
                      refine Hd.yv (y_assign rfl) ?_
                      refine Hd.nil ?_
                      refine Hd.slots [(1, _), (5, _), (7, _), (9, _), (10, _), (11, _), (12, _), (13, _)] ⟨rfl, rfl, rfl, rfl, rfl, rfl, rfl, rfl, trivial⟩ ?_
                      clear hK1 hK2 hK3 hK4 hK6 hK7 hK8 hK9 hK10 hK11 hK12 hK13 hK14 hK15 hK16 hK17 hK18 hK19 hK20 hK21 hK22 hK23 hK24 hK25 hK26
                      refine Hd.thenN ?_
                      rw [show (byWr s o.now o.b).v = s.v ++ o.b from if_pos hc8]
                      exact Hd.meet () (by repeat (first | exact trivial | refine ⟨rfl, ?_⟩)) (Ent.sep enn)
                    ·
                      try simp only [decide_eq_true_eq, decide_eq_false_iff_not, Bool.and_eq_true, Bool.or_eq_true, Bool.and_eq_false_iff, Bool.or_eq_false_iff, Bool.not_eq_true', Bool.not_eq_false', Bool.not_eq_true, Bool.not_eq_false, Int.not_lt, Int.not_le, Decidable.not_not, ne_eq] at hc8
                      refine Hd.skip ?_
                      clear hK1 hK2 hK3 hK4 hK6 hK7 hK8 hK9 hK10 hK11 hK12 hK13 hK14 hK15 hK16 hK17 hK18 hK19 hK20 hK21 hK22 hK23 hK24 hK25 hK26
                      refine Hd.thenN ?_
                      rw [show (byWr s o.now o.b).v = s.v from if_neg hc8]
                      exact Hd.meet () (by repeat (first | exact trivial | refine ⟨rfl, ?_⟩)) (Ent.sep enn)
                  ·
                    intro _
                    refine Hd.region ?_
                    refine Hd.yv (y_move rfl) ?_
                    first | (refine Hd.yv (y_field' (q := 8) (ft := 41) Try.underlying43 rfl sz41 rfl rfl) ?_) | (refine Hd.yv (y_fieldR (q := 8) (ft := 41) Try.underlying43 rfl sz41 rfl rfl) ?_)
                    first | (refine Hd.yv (y_field' (q := 4) (ft := 39) Try.underlying41 rfl sz39 rfl rfl) ?_) | (refine Hd.yv (y_fieldR (q := 4) (ft := 39) Try.underlying41 rfl sz39 rfl rfl) ?_)
                    first | (refine Hd.yv (y_load1 ag39 rfl (Rd.pt1 pkk (by (first | rfl)))) ?_) | (refine Hd.yv (y_load1 ag39 rfl (Rd.seg1 pkk (by (first | rfl)))) ?_) | (refine Hd.yv (y_load1 ag39 rfl (Rd.segK1 pkk (by decide) (by (first | rfl)))) ?_) | (refine Hd.yv (y_loadR1 ag39 rfl (by (first | exact RdS.own pkk | exact RdS.mono hR (Ent.sep enn) | exact RdS.mono hoo.rd (Ent.sep enn))) (by (first | rfl))) ?_)
                    refine Hd.callE rfl fk15 (put_ct _ b54 wb n s.w s.l hI.w s.q s.r o.x.ad o.x.d.length o.x.c o.x.d rfl ?hD hoo.x.c (by omega) (by omega)) (Ent.sep enn) ?_
                    case hD => exact RdS.mono hoo.x.rd (Ent.sep enn)
                    intro _
                    refine Hd.nil ?_
                    refine Hd.slots [(1, _), (5, _), (7, _), (9, _), (10, _), (11, _), (12, _)] ⟨rfl, rfl, rfl, rfl, rfl, rfl, rfl, trivial⟩ ?_
                    refine Hd.inB ?_
                    refine Hd.inB ?_
                    clear hK1 hK2 hK3 hK4 hK6 hK7 hK8 hK9 hK10 hK11 hK12 hK13 hK14 hK15 hK16 hK17 hK18 hK19 hK20 hK21 hK22 hK23 hK24 hK25
                    refine Hd.thenN ?_
                    have hW := hI.wr hoo.now o.b
                    have hP := hW.put o.x.d
                    have hBv : (byWr s o.now o.b).v.length ≤ 300 * (i + 1) := by
                      show (if wrE s.x o.b = 0 then s.v ++ o.b else s.v).length ≤ _
                      split
                      · rw [List.length_append]; omega
                      · omega
                    have hBq : (s.q ++ roomB n (s.l 0) o.x.d).length ≤ 300 * (i + 1) := by rw [List.length_append]; omega
                    exact Hd.meet (byPut n (byWr s o.now o.b) o.x.d) (by repeat (first | exact trivial | refine ⟨rfl, ?_⟩)) (Ent.sep (.pure ⟨hP, hBq, hBv⟩ enn))
                ·
                  try simp only [decide_eq_true_eq, decide_eq_false_iff_not, Bool.and_eq_true, Bool.or_eq_true, Bool.and_eq_false_iff, Bool.or_eq_false_iff, Bool.not_eq_true', Bool.not_eq_false', Bool.not_eq_true, Bool.not_eq_false, Int.not_lt, Int.not_le, Decidable.not_not, ne_eq] at hc7
                  refine Hd.seq (fun K27 hK27 => ?_)
                  refine Hd.region ?_
                  first | (refine Hd.yv (y_eqlT rfl rfl) ?_) | (refine Hd.yv (y_eql rfl rfl) ?_)
                  refine Hd.yv (y_assign rfl) ?_
                  refine Hd.nil ?_
                  refine Hd.slots [(1, _), (5, _), (7, _), (9, _), (10, _), (11, _), (12, _), (13, _), (66, _), (121, _)] ⟨rfl, rfl, rfl, rfl, rfl, rfl, rfl, rfl, rfl, rfl, trivial⟩ ?_
                  refine Hd.toK hK27 ?_
                  refine Hd.cond rfl (fun hc9 => ?_) (fun hc9 => ?_)
                  ·
                    try simp only [decide_eq_true_eq, decide_eq_false_iff_not, Bool.and_eq_true, Bool.or_eq_true, Bool.and_eq_false_iff, Bool.or_eq_false_iff, Bool.not_eq_true', Bool.not_eq_false', Bool.not_eq_true, Bool.not_eq_false, Int.not_lt, Int.not_le, Decidable.not_not, ne_eq] at hc9
                    refine Hd.seq (fun K28 hK28 => ?_)
                    refine Hd.region ?_
                    refine Hd.yv (y_move rfl) ?_
                    refine Hd.yv (y_move rfl) ?_
                    first | (refine Hd.yv (y_field' (q := 3) (ft := 3) Try.underlying43 rfl sz3 rfl rfl) ?_) | (refine Hd.yv (y_fieldR (q := 3) (ft := 3) Try.underlying43 rfl sz3 rfl rfl) ?_)
                    first | (refine Hd.yv (y_load1 ag3 rfl (Rd.pt1 pkk (by (first | rfl)))) ?_) | (refine Hd.yv (y_load1 ag3 rfl (Rd.seg1 pkk (by (first | rfl)))) ?_) | (refine Hd.yv (y_load1 ag3 rfl (Rd.segK1 pkk (by decide) (by (first | rfl)))) ?_) | (refine Hd.yv (y_loadR1 ag3 rfl (by (first | exact RdS.own pkk | exact RdS.mono hR (Ent.sep enn) | exact RdS.mono hoo.rd (Ent.sep enn))) (by (first | rfl))) ?_)
                    refine Hd.callE rfl fk16 (bread_ct _ b wb s.x o.n (by omega)) (Ent.sep enn) ?_
                    rintro ⟨a5, c5⟩
                    dsimp only
                    refine Hd.yv (y_strOf (l := _) (by kernel_rfl) Try.underlying9 rfl (by (first | exact RdS.own pkk | exact RdS.mono hR (Ent.sep enn) | exact RdS.mono hoo.rd (Ent.sep enn)))) ?_
                    refine Hd.yv (y_addstr rfl rfl (by first | omega | (omega) | (simp; omega) | (simp only [List.length_append, List.length_take, List.length_drop, List.length_cons, List.length_nil]; omega))) ?_
                    refine Hd.yv (y_assign rfl) ?_
                    refine Hd.nil ?_
                    refine Hd.slots [(1, _), (5, _), (7, _), (9, _), (10, _), (11, _), (12, _), (13, _)] ⟨rfl, rfl, rfl, rfl, rfl, rfl, rfl, rfl, trivial⟩ ?_
                    refine Hd.toK hK28 ?_
                    refine Hd.region ?_
                    refine Hd.yv (y_move rfl) ?_
                    first | (refine Hd.yv (y_field' (q := 3) (ft := 3) Try.underlying43 rfl sz3 rfl rfl) ?_) | (refine Hd.yv (y_fieldR (q := 3) (ft := 3) Try.underlying43 rfl sz3 rfl rfl) ?_)
                    first | (refine Hd.yv (y_load1 ag3 rfl (Rd.pt1 pkk (by (first | rfl)))) ?_) | (refine Hd.yv (y_load1 ag3 rfl (Rd.seg1 pkk (by (first | rfl)))) ?_) | (refine Hd.yv (y_load1 ag3 rfl (Rd.segK1 pkk (by decide) (by (first | rfl)))) ?_) | (refine Hd.yv (y_loadR1 ag3 rfl (by (first | exact RdS.own pkk | exact RdS.mono hR (Ent.sep enn) | exact RdS.mono hoo.rd (Ent.sep enn))) (by (first | rfl))) ?_)
                    refine Hd.callE rfl fk30 (take_ct _ b54 wb n s.w s.l hI.w s.q s.r o.n (by omega)) (Ent.sep enn) ?_
                    intro _
                    refine Hd.nil ?_
                    refine Hd.slots [(1, _), (5, _), (7, _), (9, _), (10, _), (11, _), (12, _)] ⟨rfl, rfl, rfl, rfl, rfl, rfl, rfl, trivial⟩ ?_
                    refine Hd.inB ?_
                    refine Hd.inB ?_
                    clear hK1 hK2 hK3 hK4 hK6 hK7 hK8 hK9 hK10 hK11 hK12 hK13 hK14 hK15 hK16 hK17 hK18 hK19 hK20 hK21 hK22 hK23 hK24 hK27 hK28
                    refine Hd.thenN ?_
                    exact Hd.meet (byTk (byRd s o.n) o.n) (by repeat (first | exact trivial | refine ⟨rfl, ?_⟩)) (Ent.sep (.pure ⟨(hI.rd o.n).tk o.n, hB.up⟩ enn))
                  ·
                    try simp only [decide_eq_true_eq, decide_eq_false_iff_not, Bool.and_eq_true, Bool.or_eq_true, Bool.and_eq_false_iff, Bool.or_eq_false_iff, Bool.not_eq_true', Bool.not_eq_false', Bool.not_eq_true, Bool.not_eq_false, Int.not_lt, Int.not_le, Decidable.not_not, ne_eq] at hc9
                    refine Hd.seq (fun K29 hK29 => ?_)
                    refine Hd.region ?_
                    first | (refine Hd.yv (y_eqlT rfl rfl) ?_) | (refine Hd.yv (y_eql rfl rfl) ?_)
                    refine Hd.yv (y_assign rfl) ?_
                    refine Hd.nil ?_
                    refine Hd.slots [(1, _), (5, _), (7, _), (9, _), (10, _), (11, _), (12, _), (13, _), (66, _), (134, _)] ⟨rfl, rfl, rfl, rfl, rfl, rfl, rfl, rfl, rfl, rfl, trivial⟩ ?_
                    refine Hd.toK hK29 ?_
                    refine Hd.cond rfl (fun hc10 => ?_) (fun hc10 => ?_)
                    ·
                      try simp only [decide_eq_true_eq, decide_eq_false_iff_not, Bool.and_eq_true, Bool.or_eq_true, Bool.and_eq_false_iff, Bool.or_eq_false_iff, Bool.not_eq_true', Bool.not_eq_false', Bool.not_eq_true, Bool.not_eq_false, Int.not_lt, Int.not_le, Decidable.not_not, ne_eq] at hc10
                      refine Hd.region ?_
                      refine Hd.yv (y_move rfl) ?_
                      first | (refine Hd.yv (y_field' (q := 1) (ft := 35) Try.underlying43 rfl sz35 rfl rfl) ?_) | (refine Hd.yv (y_fieldR (q := 1) (ft := 35) Try.underlying43 rfl sz35 rfl rfl) ?_)
                      first | (refine Hd.yv (y_load1 ag35 rfl (Rd.pt1 pkk (by (first | rfl)))) ?_) | (refine Hd.yv (y_load1 ag35 rfl (Rd.seg1 pkk (by (first | rfl)))) ?_) | (refine Hd.yv (y_load1 ag35 rfl (Rd.segK1 pkk (by decide) (by (first | rfl)))) ?_) | (refine Hd.yv (y_loadR1 ag35 rfl (by (first | exact RdS.own pkk | exact RdS.mono hR (Ent.sep enn) | exact RdS.mono hoo.rd (Ent.sep enn))) (by (first | rfl))) ?_)
                      first | (refine Hd.yv (y_field' (q := 2) (ft := 3) Try.underlying43 rfl sz3 rfl rfl) ?_) | (refine Hd.yv (y_fieldR (q := 2) (ft := 3) Try.underlying43 rfl sz3 rfl rfl) ?_)
                      first | (refine Hd.yv (y_load1 ag3 rfl (Rd.pt1 pkk (by (first | rfl)))) ?_) | (refine Hd.yv (y_load1 ag3 rfl (Rd.seg1 pkk (by (first | rfl)))) ?_) | (refine Hd.yv (y_load1 ag3 rfl (Rd.segK1 pkk (by decide) (by (first | rfl)))) ?_) | (refine Hd.yv (y_loadR1 ag3 rfl (by (first | exact RdS.own pkk | exact RdS.mono hR (Ent.sep enn) | exact RdS.mono hoo.rd (Ent.sep enn))) (by (first | rfl))) ?_)
                      first | (refine Hd.yv (y_field' (q := 3) (ft := 3) Try.underlying43 rfl sz3 rfl rfl) ?_) | (refine Hd.yv (y_fieldR (q := 3) (ft := 3) Try.underlying43 rfl sz3 rfl rfl) ?_)
                      first | (refine Hd.yv (y_load1 ag3 rfl (Rd.pt1 pkk (by (first | rfl)))) ?_) | (refine Hd.yv (y_load1 ag3 rfl (Rd.seg1 pkk (by (first | rfl)))) ?_) | (refine Hd.yv (y_load1 ag3 rfl (Rd.segK1 pkk (by decide) (by (first | rfl)))) ?_) | (refine Hd.yv (y_loadR1 ag3 rfl (by (first | exact RdS.own pkk | exact RdS.mono hR (Ent.sep enn) | exact RdS.mono hoo.rd (Ent.sep enn))) (by (first | rfl))) ?_)
                      first | (refine Hd.yv (y_field' (q := 4) (ft := 3) Try.underlying43 rfl sz3 rfl rfl) ?_) | (refine Hd.yv (y_fieldR (q := 4) (ft := 3) Try.underlying43 rfl sz3 rfl rfl) ?_)
                      first | (refine Hd.yv (y_load1 ag3 rfl (Rd.pt1 pkk (by (first | rfl)))) ?_) | (refine Hd.yv (y_load1 ag3 rfl (Rd.seg1 pkk (by (first | rfl)))) ?_) | (refine Hd.yv (y_load1 ag3 rfl (Rd.segK1 pkk (by decide) (by (first | rfl)))) ?_) | (refine Hd.yv (y_loadR1 ag3 rfl (by (first | exact RdS.own pkk | exact RdS.mono hR (Ent.sep enn) | exact RdS.mono hoo.rd (Ent.sep enn))) (by (first | rfl))) ?_)
                      refine Hd.callE rfl fk18 (step_ct _ b wb s.x s.w hI.ok.tm hI.ok.hi o.now o.sd o.n o.m hoo.now (by omega) hoo.m) (Ent.sep enn) ?_
                      intro _
                      refine Hd.nil ?_
                      refine Hd.slots [(1, _), (5, _), (7, _), (9, _), (10, _), (11, _), (12, _)] ⟨rfl, rfl, rfl, rfl, rfl, rfl, rfl, trivial⟩ ?_
                      refine Hd.inB ?_
                      refine Hd.inB ?_
                      clear hK1 hK2 hK3 hK4 hK6 hK7 hK8 hK9 hK10 hK11 hK12 hK13 hK14 hK15 hK16 hK17 hK18 hK19 hK20 hK21 hK22 hK23 hK24 hK27 hK29
                      refine Hd.thenN ?_
                      exact Hd.meet (bySt n s o.now o.sd o.n o.m) (by repeat (first | exact trivial | refine ⟨rfl, ?_⟩)) (Ent.sep (.pure ⟨hI.st hoo.now o.sd o.n o.m, hB.up⟩ enn))
                    ·
                      try simp only [decide_eq_true_eq, decide_eq_false_iff_not, Bool.and_eq_true, Bool.or_eq_true, Bool.and_eq_false_iff, Bool.or_eq_false_iff, Bool.not_eq_true', Bool.not_eq_false', Bool.not_eq_true, Bool.not_eq_false, Int.not_lt, Int.not_le, Decidable.not_not, ne_eq] at hc10
                      refine Hd.seq (fun K30 hK30 => ?_)
                      refine Hd.region ?_
                      first | (refine Hd.yv (y_eqlT rfl rfl) ?_) | (refine Hd.yv (y_eql rfl rfl) ?_)
                      refine Hd.yv (y_assign rfl) ?_
                      refine Hd.nil ?_
                      refine Hd.slots [(1, _), (5, _), (7, _), (9, _), (10, _), (11, _), (12, _), (13, _), (146, _)] ⟨rfl, rfl, rfl, rfl, rfl, rfl, rfl, rfl, rfl, trivial⟩ ?_
                      refine Hd.toK hK30 ?_
                      refine Hd.cond rfl (fun hc11 => ?_) (fun hc11 => ?_)
                      ·
                        try simp only [decide_eq_true_eq, decide_eq_false_iff_not, Bool.and_eq_true, Bool.or_eq_true, Bool.and_eq_false_iff, Bool.or_eq_false_iff, Bool.not_eq_true', Bool.not_eq_false', Bool.not_eq_true, Bool.not_eq_false, Int.not_lt, Int.not_le, Decidable.not_not, ne_eq] at hc11
                        refine Hd.region ?_
                        refine Hd.yv (y_move rfl) ?_
                        first | (refine Hd.yv (y_field' (q := 1) (ft := 35) Try.underlying43 rfl sz35 rfl rfl) ?_) | (refine Hd.yv (y_fieldR (q := 1) (ft := 35) Try.underlying43 rfl sz35 rfl rfl) ?_)
                        first | (refine Hd.yv (y_load1 ag35 rfl (Rd.pt1 pkk (by (first | rfl)))) ?_) | (refine Hd.yv (y_load1 ag35 rfl (Rd.seg1 pkk (by (first | rfl)))) ?_) | (refine Hd.yv (y_load1 ag35 rfl (Rd.segK1 pkk (by decide) (by (first | rfl)))) ?_) | (refine Hd.yv (y_loadR1 ag35 rfl (by (first | exact RdS.own pkk | exact RdS.mono hR (Ent.sep enn) | exact RdS.mono hoo.rd (Ent.sep enn))) (by (first | rfl))) ?_)
                        refine Hd.callE rfl fk22 (late_ct _ b wb s.x o.now) (Ent.sep enn) ?_
                        intro _
                        refine Hd.nil ?_
                        refine Hd.slots [(1, _), (5, _), (7, _), (9, _), (10, _), (11, _), (12, _)] ⟨rfl, rfl, rfl, rfl, rfl, rfl, rfl, trivial⟩ ?_
                        refine Hd.inB ?_
                        refine Hd.inB ?_
                        clear hK1 hK2 hK3 hK4 hK6 hK7 hK8 hK9 hK10 hK11 hK12 hK13 hK14 hK15 hK16 hK17 hK18 hK19 hK20 hK21 hK22 hK23 hK24 hK27 hK29 hK30
                        refine Hd.thenN ?_
                        exact Hd.meet { s with x := effB (ltF o.now) s.x (sidesA 6) } (by repeat (first | exact trivial | refine ⟨rfl, ?_⟩)) (Ent.sep (.pure ⟨hI.same (smc_late _ _ _) (bok_late hI.ok _ _), hB.up⟩ enn))
                      ·
                        try simp only [decide_eq_true_eq, decide_eq_false_iff_not, Bool.and_eq_true, Bool.or_eq_true, Bool.and_eq_false_iff, Bool.or_eq_false_iff, Bool.not_eq_true', Bool.not_eq_false', Bool.not_eq_true, Bool.not_eq_false, Int.not_lt, Int.not_le, Decidable.not_not, ne_eq] at hc11
                        refine Hd.skip ?_
                        refine Hd.inB ?_
                        refine Hd.inB ?_
                        clear hK1 hK2 hK3 hK4 hK6 hK7 hK8 hK9 hK10 hK11 hK12 hK13 hK14 hK15 hK16 hK17 hK18 hK19 hK20 hK21 hK22 hK23 hK24 hK27 hK29 hK30
                        refine Hd.thenN ?_
                        exact Hd.meet s (by repeat (first | exact trivial | refine ⟨rfl, ?_⟩)) (Ent.sep (.pure ⟨hI, hB.up⟩ enn))
      ·
        intro s2
        refine Hd.pure (fun hj => ?_)
        refine Hd.region ?_
        refine Hd.yv (y_move rfl) ?_
        first | (refine Hd.yv (y_addn rfl rfl (by simp only [InK]; omega)) ?_) | (refine Hd.yv (y_add rfl rfl) ?_)
        refine Hd.yv (y_assign rfl) ?_
        refine Hd.nil ?_
        refine Hd.slots [(1, _), (5, _), (7, _), (9, _), (10, _), (11, _), (12, _)] ⟨rfl, rfl, rfl, rfl, rfl, rfl, rfl, trivial⟩ ?_
        clear hK1 hK2 hK3 hK4 hK6 hK7 hK8 hK9 hK10 hK11 hK12 hK13 hK14 hK15 hK16 hK17
        refine Hd.thenN ?_
        exact Hd.again (i + 1, s2) (by first | omega | (simp only; omega) | (simp; omega)) (by repeat (first | exact trivial | refine ⟨rfl, ?_⟩)) (Ent.sep (.pure ⟨hi, hj.1, hj.2⟩ enn))
    ·
      try simp only [decide_eq_true_eq, decide_eq_false_iff_not, Bool.and_eq_true, Bool.or_eq_true, Bool.and_eq_false_iff, Bool.or_eq_false_iff, Bool.not_eq_true', Bool.not_eq_false', Bool.not_eq_true, Bool.not_eq_false, Int.not_lt, Int.not_le, Decidable.not_not, ne_eq] at hc2
      obtain ⟨hi0, hI, hB⟩ := hp0
      have hq0 : s.q.length ≤ 24000 ∧ s.v.length ≤ 24000 := by
        have h1 := hB.1
        have h2 := hB.2
        omega
      have hL := hI.len
      have hRl := readA_len s.x ((s.x.s 0).c.length : Int)
      refine Hd.bufLen (b := b) (wb := wb) (x := s.x) pkk (fun hlen => ?_)
      refine Hd.exit ?_
      refine Hd.thenExit ?_
      refine Hd.thenExit ?_
      refine Hd.inBexit ?_
      refine Hd.toK hK14 ?_
      refine Hd.seq (fun K31 hK31 => ?_)
      refine Hd.region ?_
      refine Hd.yv (y_move rfl) ?_
      refine Hd.callE rfl fk17 (lens_ct _ b wb s.x) (Ent.sep enn) ?_
      intro _
      refine Hd.yv (y_move rfl) ?_
      refine Hd.yv (y_extract rfl rfl) ?_
      refine Hd.yv (y_extract rfl rfl) ?_
      refine Hd.yv (y_assign rfl) ?_
      refine Hd.yv (y_assign rfl) ?_
      refine Hd.nil ?_
      refine Hd.slots [(5, _), (7, _), (9, _), (10, _), (11, _), (15, _)] ⟨rfl, rfl, rfl, rfl, rfl, rfl, trivial⟩ ?_
      refine Hd.toK hK31 ?_
      refine Hd.seq (fun K32 hK32 => ?_)
      refine Hd.region ?_
      refine Hd.yv (y_move rfl) ?_
      refine Hd.yv (y_move rfl) ?_
      refine Hd.yv (y_move rfl) ?_
      refine Hd.callE rfl fk16 (bread_ct _ b wb s.x ((s.x.s 0).c.length : Int) (by omega)) (Ent.sep enn) ?_
      rintro ⟨a5, c5⟩
      dsimp only
      refine Hd.yv (y_strOf (l := _) (by kernel_rfl) Try.underlying9 rfl (by (first | exact RdS.own pkk | exact RdS.mono hR (Ent.sep enn) | exact RdS.mono hoo.rd (Ent.sep enn)))) ?_
      refine Hd.yv (y_addstr rfl rfl (by first | omega | (omega) | (simp; omega) | (simp only [List.length_append, List.length_take, List.length_drop, List.length_cons, List.length_nil]; omega))) ?_
      refine Hd.yv (y_assign rfl) ?_
      refine Hd.nil ?_
      refine Hd.slots [(5, _), (7, _), (9, _), (10, _), (11, _)] ⟨rfl, rfl, rfl, rfl, rfl, trivial⟩ ?_
      refine Hd.toK hK32 ?_
      refine Hd.seq (fun K33 hK33 => ?_)
      refine Hd.region ?_
      refine Hd.yv (y_move rfl) ?_
      refine Hd.callE rfl fk13 (marks_ct _ b wb (readB s.x ((s.x.s 0).c.length : Int)) 2 0 0) (Ent.sep enn) ?_
      intro _
      refine Hd.nil ?_
      refine Hd.slots [(5, _), (7, _), (9, _), (10, _), (11, _)] ⟨rfl, rfl, rfl, rfl, rfl, trivial⟩ ?_
      refine Hd.toK hK33 ?_
      refine Hd.seq (fun K34 hK34 => ?_)
      refine Hd.region ?_
      refine Hd.yv (y_move rfl) ?_
      refine Hd.callE rfl fk14 (enable_ct _ b wb (mrkB (readB s.x ((s.x.s 0).c.length : Int)) 2 0 0) (bok_mrk (bok_get hI.ok _) 2 0 0).tm 0 6 (by simp [InK])) (Ent.sep enn) ?_
      intro _
      refine Hd.nil ?_
      refine Hd.slots [(5, _), (7, _), (9, _), (10, _), (11, _)] ⟨rfl, rfl, rfl, rfl, rfl, trivial⟩ ?_
      refine Hd.toK hK34 ?_
      have hLp := lp_begin hI
      have hLm : lpM (lpB s) ≤ 24002 := by
        have h1 := hLp.i.len.2
        have h2 : (lpB s).v = s.v := rfl
        have h3 : (lpB s).l = s.l := rfl
        rw [h2] at h1
        unfold lpM
        split <;> split <;> omega
      refine Hd.cutK (ι := ByA) [(5, _), (7, _), (9, _), (11, _)] (fun j => [(10, .string (str j.h))]) (fun j => pu ((j.x.s 0).c = [] ∧ (j.x.s 1).c = [] ∧ j.h = j.q ∧ j.r = s.v) :: BufP b wb j.x :: WorldP wb j.w :: PpP b54 wb j.q j.r :: L) ?_ ?_ ⟨rfl, rfl, rfl, rfl, trivial⟩
      ·
        refine Hd.seq (fun K35 hK35 => ?_)
        refine Hd.region ?_
        refine Hd.yv (y_assign rfl) ?_
        refine Hd.nil ?_
        refine Hd.slots [(5, _), (7, _), (9, _), (10, _), (11, _), (17, _)] ⟨rfl, rfl, rfl, rfl, rfl, rfl, trivial⟩ ?_
        refine Hd.toK hK35 ?_
        refine Hd.block ?_
        refine Hd.loopK (ι := Nat × ByA) [(5, _), (7, _), (9, _), (11, _)] (fun q_ => [(10, .string (str q_.2.h)), (17, .int .i64 (q_.1 : Int))]) (fun q_ => pu (LpI n q_.2 ∧ q_.1 + lpM q_.2 ≤ 24002 ∧ q_.2.q = s.q ∧ q_.2.v = s.v) :: BufP b wb q_.2.x :: WorldP wb q_.2.w :: PpP b54 wb q_.2.q q_.2.r :: L) (fun q_ => 30000 - q_.1) (0, lpB s) (by repeat (first | exact trivial | refine ⟨rfl, ?_⟩)) (by repeat (first | exact trivial | refine ⟨rfl, ?_⟩)) (Ent.sep (.pure ⟨hLp, by show 0 + lpM (lpB s) ≤ 24002; omega, rfl, rfl⟩ enn)) ?_
        rintro ⟨i, y⟩
        try dsimp only
        refine Hd.pure (fun hp1 => ?_)
        try dsimp only at hp1
        refine Hd.seq (fun K36 hK36 => ?_)
        refine Hd.seq (fun K37 hK37 => ?_)
        refine Hd.region ?_
        refine Hd.yv (y_move rfl) ?_
        refine Hd.yv (y_lss rfl rfl) ?_
        refine Hd.nil ?_
        refine Hd.slots [(5, _), (7, _), (9, _), (10, _), (11, _), (17, _), (168, _)] ⟨rfl, rfl, rfl, rfl, rfl, rfl, rfl, trivial⟩ ?_
        refine Hd.toK hK37 ?_
        refine Hd.cond rfl (fun hc12 => ?_) (fun hc12 => ?_)
        ·
          try simp only [decide_eq_true_eq, decide_eq_false_iff_not, Bool.and_eq_true, Bool.or_eq_true, Bool.and_eq_false_iff, Bool.or_eq_false_iff, Bool.not_eq_true', Bool.not_eq_false', Bool.not_eq_true, Bool.not_eq_false, Int.not_lt, Int.not_le, Decidable.not_not, ne_eq] at hc12
          obtain ⟨hY, hM, hyq, hyv⟩ := hp1
          have hN := hY.next hn1.2
          have hT := (step_pr hY.i.w hY.i.fd 0 6 4096 4096).t
          have hE1 := lp_end hY hn1.1 hn1.2
          have hE2 := lp_less hY hn1.1 hn1.2
          have hS0 := hY.i.st (now := 0) (by simp [InK]) 6 4096 4096
          obtain ⟨y1, hy1⟩ : ∃ y1, lpS n y = y1 := ⟨_, rfl⟩
          have hx1 : (stepS y.x y.w 0 6 4096 4096).x = y1.x := by rw [← hy1]
          have hw1 : (stepS y.x y.w 0 6 4096 4096).w = y1.w := by rw [← hy1]
          obtain ⟨N, hN0⟩ : ∃ N : ByA, N = ⟨readB y1.x ((y1.x.s 0).c.length : Int), (readR y1.w 1 500).2, updL y1.l 1 ((y1.l 1).drop 500), y.h ++ readA y1.x ((y1.x.s 0).c.length : Int), y.r ++ (y1.l 1).take 500, y.q, y.v⟩ := ⟨_, rfl⟩
          have hNe : lpN n y = N := by rw [hN0, ← hy1]; rfl
          rw [hNe] at hN hE1 hE2
          have hS : ByI n y1 := by rw [← hy1]; exact hS0
          have hsl := hS.len
          rw [show y1.q = s.q by rw [← hy1]; exact hyq, show y1.v = s.v by rw [← hy1]; exact hyv, show y1.h = y.h by rw [← hy1], show y1.r = y.r by rw [← hy1]] at hsl
          have hRl2 := readA_len y1.x ((y1.x.s 0).c.length : Int)
          have hNr : N.r = y.r ++ (y1.l 1).take 500 := by rw [hN0]
          have hNq : N.q = s.q ∧ N.v = s.v := by rw [hN0]; exact ⟨hyq, hyv⟩
          have hNend : ∀ k', sep (BufP b wb (readB y1.x ((y1.x.s 0).c.length : Int)) :: WorldP wb (readR y1.w 1 500).2 :: PpP b54 wb y.q (y.r ++ (y1.l 1).take 500) :: L) k' → sep (BufP b wb N.x :: WorldP wb N.w :: PpP b54 wb N.q N.r :: L) k' := by rw [hN0]; exact fun _ h => h
          have hNh : Value.string (str (y.h ++ readA y1.x ((y1.x.s 0).c.length : Int))) = .string (str N.h) := by rw [hN0]
          have e500 : (500 : Int).toNat = 500 := rfl
          refine Hd.skip ?_
          refine Hd.toK hK36 ?_
          refine Hd.seq (fun K38 hK38 => ?_)
          refine Hd.block ?_
          refine Hd.seq (fun K39 hK39 => ?_)
          refine Hd.region ?_
          refine Hd.yv (y_move rfl) ?_
          refine Hd.callE rfl fk18 (step_ct _ b wb y.x y.w hY.i.ok.tm hY.i.ok.hi 0 6 4096 4096 (by simp [InK]) (by decide) (by simp [InK])) (Ent.sep enn) ?_
          intro _
          rw [hT, hx1, hw1]
          refine Hd.alloc zr49 (fun b18 => ?_)
          refine Hd.storeA (us := encT (stT2 y.x (stW n y.x y.l 6 4096) (stT1 y.x (stG y.x y.l 6 4096) noT))) sz49 rfl rfl rfl (by simp [Value.oneCell']) pkk (by exact rfl) ?_
          refine Hd.nil ?_
          refine Hd.slots [(5, _), (7, _), (9, _), (10, _), (11, _), (17, _), (18, _)] ⟨rfl, rfl, rfl, rfl, rfl, rfl, rfl, trivial⟩ ?_
          refine Hd.toK hK39 ?_
          refine Hd.seq (fun K40 hK40 => ?_)
          refine Hd.region ?_
          refine Hd.yv (y_move rfl) ?_
          refine Hd.callE rfl fk17 (lens_ct _ b wb y1.x) (Ent.sep enn) ?_
          intro _
          refine Hd.yv (y_move rfl) ?_
          refine Hd.yv (y_extract rfl rfl) ?_
          refine Hd.yv (y_extract rfl rfl) ?_
          refine Hd.yv (y_assign rfl) ?_
          refine Hd.yv (y_assign rfl) ?_
          refine Hd.nil ?_
          refine Hd.slots [(5, _), (7, _), (9, _), (10, _), (11, _), (17, _), (18, _), (19, _)] ⟨rfl, rfl, rfl, rfl, rfl, rfl, rfl, rfl, trivial⟩ ?_
          refine Hd.toK hK40 ?_
          refine Hd.seq (fun K41 hK41 => ?_)
          refine Hd.region ?_
          refine Hd.yv (y_move rfl) ?_
          refine Hd.yv (y_move rfl) ?_
          refine Hd.yv (y_move rfl) ?_
          refine Hd.callE rfl fk16 (bread_ct _ b wb y1.x ((y1.x.s 0).c.length : Int) (by omega)) (Ent.sep enn) ?_
          rintro ⟨a5, c5⟩
          dsimp only
          refine Hd.yv (y_strOf (l := _) (by kernel_rfl) Try.underlying9 rfl (by (first | exact RdS.own pkk | exact RdS.mono hR (Ent.sep enn) | exact RdS.mono hoo.rd (Ent.sep enn)))) ?_
          refine Hd.yv (y_addstr rfl rfl (by first | omega | (omega) | (simp; omega) | (simp only [List.length_append, List.length_take, List.length_drop, List.length_cons, List.length_nil]; omega))) ?_
          refine Hd.yv (y_assign rfl) ?_
          refine Hd.nil ?_
          rw [hNh]
          refine Hd.slots [(5, _), (7, _), (9, _), (10, _), (11, _), (17, _), (18, _)] ⟨rfl, rfl, rfl, rfl, rfl, rfl, rfl, trivial⟩ ?_
          refine Hd.toK hK41 ?_
          refine Hd.seq (fun K42 hK42 => ?_)
          refine Hd.region ?_
          refine Hd.yv (y_move rfl) ?_
          refine Hd.yv (y_nilp rfl) ?_
          first | (refine Hd.yv (y_field' (q := 2) (ft := 9) Try.underlying38 rfl sz9 rfl rfl) ?_) | (refine Hd.yv (y_fieldR (q := 2) (ft := 9) Try.underlying38 rfl sz9 rfl rfl) ?_)
          first | (refine Hd.yv (y_load1 ag9 rfl (Rd.pt1 pkk (by (first | rfl)))) ?_) | (refine Hd.yv (y_load1 ag9 rfl (Rd.seg1 pkk (by (first | rfl)))) ?_) | (refine Hd.yv (y_load1 ag9 rfl (Rd.segK1 pkk (by decide) (by (first | rfl)))) ?_) | (refine Hd.yv (y_loadR1 ag9 rfl (by (first | exact RdS.own pkk | exact RdS.mono hR (Ent.sep enn) | exact RdS.mono hoo.rd (Ent.sep enn))) (by (first | rfl))) ?_)
          first | (refine Hd.yv (y_lenStr Try.underlying9 rfl) ?_) | (refine Hd.yv (y_lenS Try.underlying9 rfl) ?_)
          refine Hd.yv (y_assign rfl) ?_
          refine Hd.nil ?_
          refine Hd.slots [(5, _), (7, _), (9, _), (10, _), (11, _), (17, _), (18, _), (21, _)] ⟨rfl, rfl, rfl, rfl, rfl, rfl, rfl, rfl, trivial⟩ ?_
          refine Hd.toK hK42 ?_
          refine Hd.seq (fun K43 hK43 => ?_)
          refine Hd.region ?_
          refine Hd.yv (y_move rfl) ?_
          refine Hd.callE rfl fk30 (take_ct _ b54 wb n y1.w y1.l hS.w y.q y.r 500 (by omega)) (Ent.sep enn) ?_
          intro _
          rw [e500]
          refine Hd.nil ?_
          refine Hd.slots [(5, _), (7, _), (9, _), (10, _), (11, _), (17, _), (18, _), (21, _)] ⟨rfl, rfl, rfl, rfl, rfl, rfl, rfl, rfl, trivial⟩ ?_
          refine Hd.toK hK43 ?_
          refine Hd.seq (fun K44 hK44 => ?_)
          refine Hd.heap (pt b18 (encT (stT2 y.x (stW n y.x y.l 6 4096) (stT1 y.x (stG y.x y.l 6 4096) noT))) 49 :: BufP b wb N.x :: WorldP wb N.w :: PpP b54 wb N.q N.r :: L) (fun k' h => Ent.imp' .here (fun _ z => z) hNend (Ent.sep enn k' h)) ?_
          refine Hd.region ?_
          refine Hd.yv (y_loadn (us := encT (stT2 y.x (stW n y.x y.l 6 4096) (stT1 y.x (stG y.x y.l 6 4096) noT))) ag49 rfl (Rd.pt pkk (fun j v e => by rw [Nat.zero_add]; exact e)) (by exact sz49)) ?_
          refine Hd.yv (y_build (vs := []) rfl (by first | exact bd7_192 .. | kernel_rfl)) ?_
          refine Hd.yv (y_to (v' := .bool (decide (stG y.x y.l 6 4096 = [] ∧ stW n y.x y.l 6 4096 = []))) (y_eql_agg rfl rfl eqt49 rfl ⟨rfl, rfl⟩) (by rw [← told_eq y.x]; rfl)) ?_
          refine Hd.yv (y_move rfl) ?_
          apply Hd.andg 8 194 202 [(5, _), (7, _), (9, _), (10, _), (11, _), (17, _)] rfl ⟨rfl, rfl, rfl, rfl, rfl, rfl, trivial⟩
          · intro hg49_194
            try simp only [decide_eq_true_eq, decide_eq_false_iff_not, Bool.and_eq_true, Bool.or_eq_true, Bool.and_eq_false_iff, Bool.or_eq_false_iff, Bool.not_eq_true', Bool.not_eq_false', Bool.not_eq_true, Bool.not_eq_false, Int.not_lt, Int.not_le, Decidable.not_not, ne_eq] at hg49_194
            simp only [List.take]
            refine Hd.yg rfl rfl (y_move rfl) ?_
            refine Hd.yg rfl rfl (y_nilp rfl) ?_
            first | (refine Hd.yg rfl rfl (y_field' (q := 2) (ft := 9) Try.underlying38 rfl sz9 rfl rfl) ?_) | (refine Hd.yg rfl rfl (y_fieldR (q := 2) (ft := 9) Try.underlying38 rfl sz9 rfl rfl) ?_)
            first | (refine Hd.yg rfl rfl (y_load1 ag9 rfl (Rd.pt1 pkk (by (first | rfl)))) ?_) | (refine Hd.yg rfl rfl (y_load1 ag9 rfl (Rd.seg1 pkk (by (first | rfl)))) ?_) | (refine Hd.yg rfl rfl (y_load1 ag9 rfl (Rd.segK1 pkk (by decide) (by (first | rfl)))) ?_) | (refine Hd.yg rfl rfl (y_loadR1 ag9 rfl (by (first | exact RdS.own pkk | exact RdS.mono hR (Ent.sep enn) | exact RdS.mono hoo.rd (Ent.sep enn))) (by (first | rfl))) ?_)
            first | (refine Hd.yg rfl rfl (y_lenStr Try.underlying9 rfl) ?_) | (refine Hd.yg rfl rfl (y_lenS Try.underlying9 rfl) ?_)
            refine Hd.yg rfl rfl (y_move rfl) ?_
            first | (refine Hd.yg rfl rfl (y_eqlT rfl rfl) ?_) | (refine Hd.yg rfl rfl (y_eql rfl rfl) ?_)
            first | (refine Hd.yv (y_pickT rfl rfl) ?_) | (refine Hd.yv (y_pickF rfl rfl) ?_) | (refine Hd.yv (y_pickb rfl rfl rfl) ?_) | (refine Hd.yv (y_pick rfl rfl rfl) ?_)
            refine Hd.nil ?_
            exact Hd.mend (by repeat (first | exact trivial | refine ⟨rfl, ?_⟩)) (Ent.sep enn)
          · intro hg49_194
            try simp only [decide_eq_true_eq, decide_eq_false_iff_not, Bool.and_eq_true, Bool.or_eq_true, Bool.and_eq_false_iff, Bool.or_eq_false_iff, Bool.not_eq_true', Bool.not_eq_false', Bool.not_eq_true, Bool.not_eq_false, Int.not_lt, Int.not_le, Decidable.not_not, ne_eq] at hg49_194
            simp only [List.take]
            refine Hd.ng rfl rfl rfl ?_
            refine Hd.ng rfl rfl rfl ?_
            refine Hd.ng rfl rfl rfl ?_
            refine Hd.ng rfl rfl rfl ?_
            refine Hd.ng rfl rfl rfl ?_
            refine Hd.ng rfl rfl rfl ?_
            refine Hd.ng rfl rfl rfl ?_
            first | (refine Hd.yv (y_pickT rfl rfl) ?_) | (refine Hd.yv (y_pickF rfl rfl) ?_) | (refine Hd.yv (y_pickb rfl rfl rfl) ?_) | (refine Hd.yv (y_pick rfl rfl rfl) ?_)
            refine Hd.nil ?_
            exact Hd.mend (by repeat (first | exact trivial | refine ⟨rfl, ?_⟩)) (Ent.sep enn)
          simp only [List.drop]
          refine Hd.nil ?_
          refine Hd.slots [(5, _), (7, _), (9, _), (10, _), (11, _), (17, _), (202, _)] ⟨rfl, rfl, rfl, rfl, rfl, rfl, rfl, trivial⟩ ?_
          refine Hd.toK hK44 ?_
          refine Hd.cond rfl (fun hc13 => ?_) (fun hc13 => ?_)
          ·
            try simp only [decide_eq_true_eq, decide_eq_false_iff_not, Bool.and_eq_true, Bool.or_eq_true, Bool.and_eq_false_iff, Bool.or_eq_false_iff, Bool.not_eq_true', Bool.not_eq_false', Bool.not_eq_true, Bool.not_eq_false, Int.not_lt, Int.not_le, Decidable.not_not, ne_eq] at hc13
            refine Hd.exit ?_
            refine Hd.inBexit' rfl ?_
            refine Hd.thenExit ?_
            refine Hd.thenExit ?_
            refine Hd.inBexit ?_
            clear hK1 hK2 hK3 hK4 hK6 hK7 hK8 hK9 hK10 hK11 hK12 hK13 hK14 hK15 hK16 hK17 hK31 hK32 hK33 hK34 hK35 hK36 hK37 hK38 hK39 hK40 hK41 hK42 hK43 hK44
            refine Hd.thenN ?_
            obtain ⟨z1, z2, z3, z4⟩ := hE1 hc13.1.1 hc13.1.2 (by have := hc13.2; omega)
            exact Hd.meet N (by repeat (first | exact trivial | refine ⟨rfl, ?_⟩)) (Ent.sep (.pure ⟨z1, z2, by rw [hNq.1, ← hyq]; exact z3, z4.trans hyv⟩ enn))
          ·
            try simp only [decide_eq_true_eq, decide_eq_false_iff_not, Bool.and_eq_true, Bool.or_eq_true, Bool.and_eq_false_iff, Bool.or_eq_false_iff, Bool.not_eq_true', Bool.not_eq_false', Bool.not_eq_true, Bool.not_eq_false, Int.not_lt, Int.not_le, Decidable.not_not, ne_eq] at hc13
            have hlt := hE2 (fun hh => by
              have h2 := hh.2
              rcases hc13 with h | h
              · exact h hh.1
              · exact h (by omega))
            refine Hd.skip ?_
            refine Hd.inB ?_
            refine Hd.toK hK38 ?_
            refine Hd.region ?_
            refine Hd.yv (y_move rfl) ?_
            first | (refine Hd.yv (y_addn rfl rfl (by simp only [InK]; omega)) ?_) | (refine Hd.yv (y_add rfl rfl) ?_)
            refine Hd.yv (y_assign rfl) ?_
            refine Hd.nil ?_
            refine Hd.slots [(5, _), (7, _), (9, _), (10, _), (11, _), (17, _)] ⟨rfl, rfl, rfl, rfl, rfl, rfl, trivial⟩ ?_
            clear hK1 hK2 hK3 hK4 hK6 hK7 hK8 hK9 hK10 hK11 hK12 hK13 hK14 hK15 hK16 hK17 hK31 hK32 hK33 hK34 hK35 hK36 hK37 hK38 hK39 hK40 hK41 hK42 hK43 hK44
            refine Hd.thenN ?_
            exact Hd.again (i + 1, N) (by first | omega | (simp only; omega) | (simp; omega)) (by repeat (first | exact trivial | refine ⟨rfl, ?_⟩)) (Ent.sep (.pure ⟨hN, by show i + 1 + lpM N ≤ 24002; omega, hNq.1, hNq.2⟩ enn))
        ·
          try simp only [decide_eq_true_eq, decide_eq_false_iff_not, Bool.and_eq_true, Bool.or_eq_true, Bool.and_eq_false_iff, Bool.or_eq_false_iff, Bool.not_eq_true', Bool.not_eq_false', Bool.not_eq_true, Bool.not_eq_false, Int.not_lt, Int.not_le, Decidable.not_not, ne_eq] at hc12
          exact (by omega : False).elim
      ·
        intro s3
        refine Hd.pure (fun hj => ?_)
        obtain ⟨j1, j2, j3, j4⟩ := hj
        refine Hd.seq (fun K45 hK45 => ?_)
        refine Hd.region ?_
        refine Hd.yv (y_move rfl) ?_
        refine Hd.callE rfl fk17 (lens_ct _ b wb s3.x) (Ent.sep enn) ?_
        intro _
        refine Hd.yv (y_move rfl) ?_
        refine Hd.yv (y_extract rfl rfl) ?_
        refine Hd.yv (y_extract rfl rfl) ?_
        refine Hd.yv (y_assign rfl) ?_
        refine Hd.yv (y_assign rfl) ?_
        refine Hd.nil ?_
        refine Hd.slots [(5, _), (9, _), (10, _), (11, _), (22, _), (23, _)] ⟨rfl, rfl, rfl, rfl, rfl, rfl, trivial⟩ ?_
        refine Hd.toK hK45 ?_
        refine Hd.seq (fun K46 hK46 => ?_)
        refine Hd.region ?_
        refine Hd.yv (y_move rfl) ?_
        refine Hd.yv (y_move rfl) ?_
        refine Hd.yg rfl rfl (y_move rfl) ?_
        first | (refine Hd.yg rfl rfl (y_to (y_eqlT rfl rfl) (congrArg Value.bool (decide_eq_true ((by rw [j1]; rfl))))) ?_) | (refine Hd.yg rfl rfl (y_to (y_eql rfl rfl) (congrArg Value.bool (decide_eq_true ((by rw [j1]; rfl))))) ?_)
        first | (refine Hd.yv (y_pickT rfl rfl) ?_) | (refine Hd.yv (y_pickF rfl rfl) ?_) | (refine Hd.yv (y_pickb rfl rfl rfl) ?_) | (refine Hd.yv (y_pick rfl rfl rfl) ?_)
        refine Hd.yv (y_move rfl) ?_
        refine Hd.yg rfl rfl (y_move rfl) ?_
        first | (refine Hd.yg rfl rfl (y_to (y_eqlT rfl rfl) (congrArg Value.bool (decide_eq_true ((by rw [j2]; rfl))))) ?_) | (refine Hd.yg rfl rfl (y_to (y_eql rfl rfl) (congrArg Value.bool (decide_eq_true ((by rw [j2]; rfl))))) ?_)
        first | (refine Hd.yv (y_pickT rfl rfl) ?_) | (refine Hd.yv (y_pickF rfl rfl) ?_) | (refine Hd.yv (y_pickb rfl rfl rfl) ?_) | (refine Hd.yv (y_pick rfl rfl rfl) ?_)
        refine Hd.yv (y_move rfl) ?_
        refine Hd.yg rfl rfl (y_move rfl) ?_
        refine Hd.yg rfl rfl (y_move rfl) ?_
        refine Hd.yg rfl rfl (y_nilp rfl) ?_
        first | (refine Hd.yg rfl rfl (y_field' (q := 1) (ft := 9) Try.underlying38 rfl sz9 rfl rfl) ?_) | (refine Hd.yg rfl rfl (y_fieldR (q := 1) (ft := 9) Try.underlying38 rfl sz9 rfl rfl) ?_)
        first | (refine Hd.yg rfl rfl (y_load1 ag9 rfl (Rd.pt1 pkk (by (first | rfl)))) ?_) | (refine Hd.yg rfl rfl (y_load1 ag9 rfl (Rd.seg1 pkk (by (first | rfl)))) ?_) | (refine Hd.yg rfl rfl (y_load1 ag9 rfl (Rd.segK1 pkk (by decide) (by (first | rfl)))) ?_) | (refine Hd.yg rfl rfl (y_loadR1 ag9 rfl (by (first | exact RdS.own pkk | exact RdS.mono hR (Ent.sep enn) | exact RdS.mono hoo.rd (Ent.sep enn))) (by (first | rfl))) ?_)
        refine Hd.yg rfl rfl (y_to (y_eqlstr rfl rfl) (congrArg Value.bool (decide_eq_true (j3)))) ?_
        first | (refine Hd.yv (y_pickT rfl rfl) ?_) | (refine Hd.yv (y_pickF rfl rfl) ?_) | (refine Hd.yv (y_pickb rfl rfl rfl) ?_) | (refine Hd.yv (y_pick rfl rfl rfl) ?_)
        refine Hd.yv (y_move rfl) ?_
        refine Hd.yg rfl rfl (y_move rfl) ?_
        refine Hd.yg rfl rfl (y_nilp rfl) ?_
        first | (refine Hd.yg rfl rfl (y_field' (q := 2) (ft := 9) Try.underlying38 rfl sz9 rfl rfl) ?_) | (refine Hd.yg rfl rfl (y_fieldR (q := 2) (ft := 9) Try.underlying38 rfl sz9 rfl rfl) ?_)
        first | (refine Hd.yg rfl rfl (y_load1 ag9 rfl (Rd.pt1 pkk (by (first | rfl)))) ?_) | (refine Hd.yg rfl rfl (y_load1 ag9 rfl (Rd.seg1 pkk (by (first | rfl)))) ?_) | (refine Hd.yg rfl rfl (y_load1 ag9 rfl (Rd.segK1 pkk (by decide) (by (first | rfl)))) ?_) | (refine Hd.yg rfl rfl (y_loadR1 ag9 rfl (by (first | exact RdS.own pkk | exact RdS.mono hR (Ent.sep enn) | exact RdS.mono hoo.rd (Ent.sep enn))) (by (first | rfl))) ?_)
        refine Hd.yg rfl rfl (y_move rfl) ?_
        refine Hd.yg rfl rfl (y_to (y_eqlstr rfl rfl) (congrArg Value.bool (decide_eq_true (j4)))) ?_
        first | (refine Hd.yv (y_pickT rfl rfl) ?_) | (refine Hd.yv (y_pickF rfl rfl) ?_) | (refine Hd.yv (y_pickb rfl rfl rfl) ?_) | (refine Hd.yv (y_pick rfl rfl rfl) ?_)
        refine Hd.yv (y_assign rfl) ?_
        refine Hd.nil ?_
        refine Hd.slots [(4, _)] ⟨rfl, trivial⟩ ?_
        refine Hd.toK hK46 ?_
        refine Hd.ret ?_
        clear hK1 hK2 hK3 hK4 hK6 hK7 hK8 hK9 hK10 hK11 hK12 hK13 hK14 hK15 hK16 hK17 hK31 hK32 hK33 hK34 hK45 hK46
        exact Hd.ret1 rfl () (by first | rfl | (simp only [*]; done) | (simp [*]; done)) (Ent.sep enn)
end Bu
end Go.Proofs.Ytmpemhbfgbochaa
namespace Go.RX
set_option linter.unusedSimpArgs false
set_option linter.unusedVariables false
set_option linter.unnecessarySimpa false
def u8of (i : Int) : UInt8 := UInt8.ofNat i.toNat
theorem B_u8of {i : Int} (h : InK .u8 i) : B (u8of i) = .int .u8 i := by
  simp only [InK] at h
  have : ((u8of i).toNat : Int) = i := by
    unfold u8of
    have h1 : i.toNat < 256 := by omega
    simp only [UInt8.toNat_ofNat']
    omega
  rw [B, this]
theorem map_u8of {l : List Int} (h : ∀ y ∈ l, InK .u8 y) : (l.map u8of).map B = l.map (Value.int .u8) := by
  rw [List.map_map]
  exact List.map_congr_left fun y hy => B_u8of (h y hy)
theorem rd_u8 {W : World} {x : (Sh.slice (.int .u8)).T} (h : (Sh.slice (.int .u8)).ok W x) : RdS [Old W] 1 x.ad (x.l.map u8of).length ((x.l.map u8of).map B) := by
  rw [map_u8of h.2.2.2.2, List.length_map]
  exact rd_int h
end Go.RX
namespace Go.Proofs.Ytmpemhbfgbochaa
set_option linter.unusedSimpArgs false
set_option linter.unusedVariables false
set_option linter.unnecessarySimpa false
open Go.RX Go.ChangeShapes Go.WideShapes Go.ChangeAt Go.RowKit
abbrev shO : Sh := .struct (.fld (.int .i64) (.fld (.int .i64) (.fld (.int .i64) (.fld (.int .u64) (.fld (.slice (.int .u8)) .nil)))))
abbrev shC : Sh := .struct (.fld (.int .i64) (.fld (.int .u64) (.fld (.int .i64) (.fld (.int .i64) (.fld (.int .i64) (.fld (.int .u64) (.fld (.int .u64) (.fld (.slice (.int .u8)) (.fld shO .nil)))))))))
def cvO (y : shO.T) : Bu.Ov := ⟨y.1, y.2.1, y.2.2.1, y.2.2.2.1, y.2.2.2.2.1.ad, y.2.2.2.2.1.cap, y.2.2.2.2.1.l.map u8of⟩
theorem ok_cvO {W : World} {y : shO.T} (h : shO.ok W y) : Bu.OvOk [Old W] (cvO y) :=
  ⟨rd_u8 h.2.2.2.2.1, by show (List.map u8of _).length ≤ _; rw [List.length_map]; exact h.2.2.2.2.1.2.1, h.1, h.2.1, h.2.2.1, h.2.2.2.1⟩
def cvC (y : shC.T) : Bu.Cv := ⟨y.1, y.2.1, y.2.2.1, y.2.2.2.1, y.2.2.2.2.1, y.2.2.2.2.2.1, y.2.2.2.2.2.2.1, y.2.2.2.2.2.2.2.1.ad, y.2.2.2.2.2.2.2.1.cap, y.2.2.2.2.2.2.2.1.l.map u8of, cvO y.2.2.2.2.2.2.2.2.1⟩
theorem enc_cvC (y : shC.T) : Bu.encC (cvC y) = shC.enc y := by
  show [_, _, _, _, _, _, _, Value.slice _ (y.2.2.2.2.2.2.2.1.l.map u8of).length _, _, _, _, _, Value.slice _ (y.2.2.2.2.2.2.2.2.1.2.2.2.2.1.l.map u8of).length _] = _
  rw [List.length_map, List.length_map]; rfl
theorem rd_calls {W : World} {x : (Sh.slice shC).T} (h : (Sh.slice shC).ok W x) : RdS [Old W] 13 x.ad (x.l.map cvC).length ((x.l.map cvC).flatMap Bu.encC) := by
  have e : (x.l.map cvC).flatMap Bu.encC = x.l.flatMap shC.enc := by rw [List.flatMap_map]; congr 1; funext y; exact enc_cvC y
  rw [e, List.length_map]; exact h.1
theorem calls_ok {W : World} {x : (Sh.slice shC).T} (h : (Sh.slice shC).ok W x) : ∀ o ∈ x.l.map cvC, Bu.CvOk [Old W] o := fun o ho => by
  obtain ⟨y, hy, rfl⟩ := List.mem_map.1 ho
  have h2 := h.2.2.2.2 y hy
  exact ⟨rd_u8 h2.2.2.2.2.2.2.2.1, by show (List.map u8of _).length ≤ _; rw [List.length_map]; exact h2.2.2.2.2.2.2.2.1.2.1, h2.2.1, h2.2.2.1, h2.2.2.2.1, h2.2.2.2.2.1, h2.2.2.2.2.2.1, h2.2.2.2.2.2.2.1, ok_cvO h2.2.2.2.2.2.2.2.2.1⟩
end Go.Proofs.Ytmpemhbfgbochaa
namespace Go.Proofs.Ytmpemhbfgbochaa
set_option linter.unusedSimpArgs false
set_option linter.unusedVariables false
set_option linter.unnecessarySimpa false
open Go.RX Go.ChangeShapes Go.WideShapes Go.ChangeAt Go.RowKit
theorem Try.own : ownKnob Try.prog.godebug = none := by kernel_rfl
theorem Try.laidOut : laidOutB Try.prog = true := by kernel_rfl
set_option maxRecDepth 100000 in
theorem BufevBytes_lifted (os : Os) (started : os.Started) (H : Type) (enc : TypeId × Value → H) :
    ReturnsInHanded {} Try.checked os 7 .any (Rows.bufevBytesSpec.pre6 enc Try.prog Try.f7 Rows.bufevBytesRow.domain false) (Rows.bufevBytesSpec.post enc Try.prog Try.f7 false true false false) := by
  refine returnsInHanded_of_change (C := Try.checked) Try.own started (by kernel_rfl) Try.func7
    (ChangeSpec.witness6 (enc := enc) (C := Try.checked) false ⟨#[], #[.int .i64 0, .slice none 0 0], []⟩ 8 (by kernel_rfl) (by kernel_rfl) (by kernel_rfl) (by kernel_rfl)) ?_
  intro W base args ds gs before hval0 hW hcnd _
  have hval : ∀ (j : Nat) t v, Try.f7.params[j]? = some t → args[j]? = some v → Value.okWide Try.prog W .any base t v := hval0
  have hW' := hW
  obtain ⟨p, q, hA0, hV, rfl, hfz, hnd⟩ := hW
  have hA : DataW.TrodAll enc Try.prog W 0 (fun _ => true) true Try.f7.params.toList args.toList ds p := hA0
  obtain ⟨rfl, rfl⟩ := trodVars_none hV
  simp only [List.append_nil] at hW'
  have hA1 := hA
  rw [Try.params7] at hA hval
  obtain ⟨v0, l0, d0, ds0, p0, q0, ha0, rfl, rfl, h0, hA⟩ := trodAll_cons hA
  obtain ⟨v1, l1, d1, ds1, p1, q1, rfl, rfl, rfl, h1, hA⟩ := trodAll_cons hA
  obtain ⟨rfl, rfl, rfl⟩ := trodAll_nil hA
  obtain rfl : args = #[v0, v1] := by cases args; simp_all
  obtain ⟨x0, e0, o0⟩ := open_arg (s := .int .i64) (by kernel_rfl) (hval 0 _ _ rfl rfl) h0
  have e0 := okW_one (s := .int .i64) (by kernel_rfl) rfl (hval 0 _ _ rfl rfl) e0
  simp only [Sh.enc, List.cons.injEq, and_true] at e0
  subst e0
  obtain ⟨x1, e1, o1⟩ := open_arg (s := .slice shC) (by kernel_rfl) (hval 1 _ _ rfl rfl) h1
  have e1 := okW_one (s := .slice shC) (by kernel_rfl) rfl (hval 1 _ _ rfl rfl) e1
  simp only [Sh.enc, List.cons.injEq, and_true] at e1
  subst e1
  refine (law_calls (by have := Bu.bbytes_ct [Old W] x0 x1.ad x1.cap (x1.l.map cvC) (rd_calls o1) (calls_ok o1); rwa [List.length_map] at this)).mono fun e W' ⟨he, hb⟩ => ?_
  subst he
  exact ⟨_, rfl, law_post Try.laidOut rfl Try.underlying4 rfl rfl (of_decide_eq_true (by kernel_rfl)) hW' hA1 hb⟩
theorem BufevBytes_holds : Rows.BufevBytesSaid :=
  OpenClaim.holds_of_wide 7 Try.f7 rfl rfl rfl rfl rfl rfl rfl ⟨rfl, rfl, rfl, rfl, rfl⟩ rfl rfl rfl rfl rfl (by kernel_rfl) Try.func7 (by kernel_rfl)
    (of_decide_eq_true (by kernel_rfl)) (by unfold Func.isWrapper; first | (rw [if_pos (by decide +kernel)]; kernel_rfl) | (rw [if_neg (by decide +kernel)]; exact ⟨rfl, rfl⟩))
    (fun os started H enc _ => BufevBytes_lifted os started H enc)
end Go.Proofs.Ytmpemhbfgbochaa
