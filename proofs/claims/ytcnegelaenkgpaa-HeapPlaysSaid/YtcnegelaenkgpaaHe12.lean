/-
  The law HeapPlays answers true.
-/
import Derived.Test.YtcnegelaenkgpaaHe10
import Derived.Test.YtcnegelaenkgpaaHe11
namespace Go.Proofs.Ytcnegelaenkgpaa
set_option linter.unusedSimpArgs false
set_option linter.unusedVariables false
set_option linter.unnecessarySimpa false
open Go.RX Fx
namespace Hp
set_option maxRecDepth 8000
structure Opv where
  k : Int
  x : It
abbrev encO (o : Opv) : List Value := [.int .i64 o.k, .int .i64 o.x.id, .int .u64 o.x.at_, .int .u64 o.x.n]
theorem pushS_len (s : List It) (x : It) : (pushS s x).length ≤ s.length + 1 := by
  unfold pushS; split
  · omega
  · rw [(insI_perm x s).length_eq]; simp
theorem remI_len (s : List It) (id : Int) : (remI id s).length ≤ s.length := List.length_filter_le _ _
theorem moveS_len (s : List It) (x : It) : (moveS s x).length ≤ s.length + 1 := by
  unfold moveS; split
  · rw [(insI_perm x _).length_eq]; have := remI_len s x.id; simp; omega
  · omega
theorem restI_len (s : List It) (now : Int) : (restI now s).length ≤ s.length := by
  have := congrArg List.length (List.takeWhile_append_dropWhile (p := fun x : It => decide (x.at_ ≤ now)) (l := s))
  rw [List.length_append] at this
  unfold restI; omega
set_option maxHeartbeats 2000000 in
theorem plays_ct (L : List SP) (ad : Option Addr) (c : Nat) (xs : List Opv) (hR : RdS L 4 ad xs.length (xs.flatMap encO)) : Ct Try.prog 8 #[.slice ad xs.length c] (L) (fun _ : Unit => .bool true) (fun _ : Unit => L) := by
  refine Ct.of (vs := [.slice ad xs.length c]) Try.func8 rfl rfl [(0, .slice ad xs.length c)] (by repeat (first | exact trivial | refine ⟨rfl, ?_⟩)) ?_
  intro E
  show Hd E 219 _ _ _ _
  refine Hd.seq (fun K1 hK1 => ?_)
  refine Hd.region ?_
  refine Hd.yv (y_assign rfl) ?_
  refine Hd.nil ?_
  refine Hd.slots [(0, _)] ⟨rfl, trivial⟩ ?_
  refine Hd.toK hK1 ?_
  refine Hd.seq (fun K2 hK2 => ?_)
  refine Hd.seq (fun K3 hK3 => ?_)
  refine Hd.region ?_
  refine Hd.yv (y_move rfl) ?_
  refine Hd.yv (y_len Try.underlying46 rfl) ?_
  refine Hd.yv (y_gtr rfl rfl) ?_
  refine Hd.nil ?_
  refine Hd.slots [(0, _), (31, _)] ⟨rfl, rfl, trivial⟩ ?_
  refine Hd.toK hK3 ?_
  refine Hd.cond rfl (fun hc0 => ?_) (fun hc0 => ?_)
  ·
    try simp only [decide_eq_true_eq, decide_eq_false_iff_not, Bool.and_eq_true, Bool.or_eq_true, Bool.and_eq_false_iff, Bool.or_eq_false_iff, Bool.not_eq_true', Bool.not_eq_false', Bool.not_eq_true, Bool.not_eq_false, Int.not_lt, Int.not_le, Decidable.not_not, ne_eq] at hc0
    refine Hd.seq (fun K4 hK4 => ?_)
    refine Hd.region ?_
    refine Hd.yv (y_assign rfl) ?_
    refine Hd.nil ?_
    refine Hd.slots [(2, _)] ⟨rfl, trivial⟩ ?_
    refine Hd.toK hK4 ?_
    refine Hd.ret ?_
    refine Hd.thenRet ?_
    clear hK1 hK2 hK3 hK4
    exact Hd.ret1 rfl () (by first | rfl | (simp only [*]; done) | (simp [*]; done)) (Ent.sep enn)
  ·
    try simp only [decide_eq_true_eq, decide_eq_false_iff_not, Bool.and_eq_true, Bool.or_eq_true, Bool.and_eq_false_iff, Bool.or_eq_false_iff, Bool.not_eq_true', Bool.not_eq_false', Bool.not_eq_true, Bool.not_eq_false, Int.not_lt, Int.not_le, Decidable.not_not, ne_eq] at hc0
    have hx : xs.length ≤ 200 := by omega
    refine Hd.skip ?_
    refine Hd.toK hK2 ?_
    refine Hd.seq (fun K5 hK5 => ?_)
    refine Hd.region ?_
    refine Hd.callE rfl fk17 (new_ct _) (Ent.sep enn) ?_
    intro b
    refine Hd.yv (y_assign rfl) ?_
    refine Hd.nil ?_
    refine Hd.slots [(0, _), (3, _)] ⟨rfl, rfl, trivial⟩ ?_
    refine Hd.toK hK5 ?_
    refine Hd.seq (fun K6 hK6 => ?_)
    refine Hd.region ?_
    refine Hd.yv (y_build (vs := []) rfl (by first | exact bd8_33 .. | kernel_rfl)) ?_
    refine Hd.box rfl rfl (fun b34 => ?_)
    refine Hd.yv (y_assign rfl) ?_
    refine Hd.nil ?_
    refine Hd.heap (HpA b [] :: RH b34 [] :: L) (fun k s => Ent.sep (.pick pkk (.ex (none, 0) (.eq pkk (pt_eq (by rfl)) (.ownNil enn)))) k s) ?_
    refine Hd.slots [(0, _), (3, _), (4, _)] ⟨rfl, rfl, rfl, trivial⟩ ?_
    refine Hd.toK hK6 ?_
    refine Hd.seq (fun K7 hK7 => ?_)
    refine Hd.seq (fun K8 hK8 => ?_)
    refine Hd.region ?_
    refine Hd.yv (y_move rfl) ?_
    refine Hd.yv (y_len Try.underlying46 rfl) ?_
    refine Hd.yv (y_move rfl) ?_
    refine Hd.nil ?_
    refine Hd.slots [(0, _), (3, _), (4, _), (36, _), (37, _)] ⟨rfl, rfl, rfl, rfl, rfl, trivial⟩ ?_
    refine Hd.toK hK8 ?_
    refine Hd.block ?_
    refine Hd.loopK (ι := Nat × List It) [(0, _), (3, _), (4, _), (36, _)] (fun q_ => [(37, .int .i64 (q_.1 : Int))]) (fun q_ => pu (q_.1 ≤ xs.length ∧ q_.2.length ≤ q_.1) :: HpA b q_.2 :: RH b34 q_.2 :: L) (fun q_ => xs.length - q_.1) (0, []) (by repeat (first | exact trivial | refine ⟨rfl, ?_⟩)) (by repeat (first | exact trivial | refine ⟨rfl, ?_⟩)) (Ent.sep (.pure ⟨Nat.zero_le _, Nat.zero_le _⟩ (show Ent _ (HpA b [] :: RH b34 [] :: L) from enn))) ?_
    rintro ⟨i, s⟩
    try dsimp only
    refine Hd.pure (fun hp0 => ?_)
    try dsimp only at hp0
    refine Hd.seq (fun K9 hK9 => ?_)
    refine Hd.region ?_
    refine Hd.yv (y_lss rfl rfl) ?_
    refine Hd.nil ?_
    refine Hd.slots [(0, _), (3, _), (4, _), (36, _), (37, _), (38, _)] ⟨rfl, rfl, rfl, rfl, rfl, rfl, trivial⟩ ?_
    refine Hd.toK hK9 ?_
    refine Hd.seq (fun K10 hK10 => ?_)
    refine Hd.cond rfl (fun hc1 => ?_) (fun hc1 => ?_)
    ·
      try simp only [decide_eq_true_eq, decide_eq_false_iff_not, Bool.and_eq_true, Bool.or_eq_true, Bool.and_eq_false_iff, Bool.or_eq_false_iff, Bool.not_eq_true', Bool.not_eq_false', Bool.not_eq_true, Bool.not_eq_false, Int.not_lt, Int.not_le, Decidable.not_not, ne_eq] at hc1
      have hi : i < xs.length := by omega
      have hsl := hp0.2
      obtain ⟨o, ho⟩ : ∃ o, xs[i]? = some o := ⟨_, List.getElem?_eq_getElem hi⟩
      obtain ⟨x, hxo⟩ : ∃ x, x = o.x := ⟨_, rfl⟩
      refine Hd.hpF (b := b) .here (fun hF => ?_)
      refine Hd.skip ?_
      refine Hd.toK hK10 ?_
      refine Hd.seq (fun K11 hK11 => ?_)
      refine Hd.block ?_
      refine Hd.seq (fun K12 hK12 => ?_)
      refine Hd.region ?_
      refine Hd.yv (y_move rfl) ?_
      refine Hd.yv (y_assign rfl) ?_
      refine Hd.nil ?_
      refine Hd.slots [(0, _), (3, _), (4, _), (5, _), (36, _), (37, _)] ⟨rfl, rfl, rfl, rfl, rfl, rfl, trivial⟩ ?_
      refine Hd.toK hK12 ?_
      refine Hd.seq (fun K13 hK13 => ?_)
      refine Hd.region ?_
      refine Hd.yv (y_move rfl) ?_
      refine Hd.yv (y_move rfl) ?_
      first | (refine Hd.yv (y_idxS Try.underlying46 sz51 rfl rfl (by first | omega | decide)) ?_) | (refine Hd.yv (y_idxR Try.underlying46 sz51 rfl rfl (by first | omega | decide) (by (first | exact RdS.own pkk | exact RdS.mono hR (Ent.sep enn)))) ?_)
      first | (refine Hd.yv (y_field' (q := 1) (ft := 31) Try.underlying51 rfl sz31 rfl rfl) ?_) | (refine Hd.yv (y_fieldR (q := 1) (ft := 31) Try.underlying51 rfl sz31 rfl rfl) ?_)
      refine Hd.yv (y_loadRn (vs := [_, _, _]) ag31 rfl (RdS.mono hR (Ent.sep enn)) (fun j v (e : (encI x)[j]? = some v) => by have := flat_cells encO 4 (fun _ => rfl) ho (1 + j) v (by rw [Nat.add_comm]; rw [hxo] at e; exact e); rwa [← Nat.add_assoc] at this) (by exact sz31) (by simp)) ?_
      refine Hd.alloc zr31 (fun b6 => ?_)
      refine Hd.storeA (us := encI x) sz31 rfl rfl rfl (encI_one _) pkk (by exact rfl) ?_
      refine Hd.nil ?_
      refine Hd.slots [(0, _), (3, _), (4, _), (5, _), (6, _), (36, _), (37, _)] ⟨rfl, rfl, rfl, rfl, rfl, rfl, rfl, trivial⟩ ?_
      refine Hd.toK hK13 ?_
      refine Hd.seq (fun K14 hK14 => ?_)
      refine Hd.region ?_
      refine Hd.yv (y_assign rfl) ?_
      refine Hd.nil ?_
      refine Hd.slots [(0, _), (3, _), (4, _), (5, _), (6, _), (7, _), (36, _), (37, _)] ⟨rfl, rfl, rfl, rfl, rfl, rfl, rfl, rfl, trivial⟩ ?_
      refine Hd.toK hK14 ?_
      refine Hd.cutK (ι := List It) [(0, _), (3, _), (4, _), (36, _), (37, _)] (fun _ => [(7, .bool true)]) (fun s2 => pu (s2.length ≤ i + 1) :: HpA b s2 :: RH b34 s2 :: L) ?_ ?_ ⟨rfl, rfl, rfl, rfl, rfl, trivial⟩
      ·
        refine Hd.seq (fun K15 hK15 => ?_)
        refine Hd.region ?_
        refine Hd.yv (y_move rfl) ?_
        refine Hd.yv (y_move rfl) ?_
        first | (refine Hd.yv (y_idxS Try.underlying46 sz51 rfl rfl (by first | omega | decide)) ?_) | (refine Hd.yv (y_idxR Try.underlying46 sz51 rfl rfl (by first | omega | decide) (by (first | exact RdS.own pkk | exact RdS.mono hR (Ent.sep enn)))) ?_)
        first | (refine Hd.yv (y_field' (q := 0) (ft := 3) Try.underlying51 rfl sz3 rfl rfl) ?_) | (refine Hd.yv (y_fieldR (q := 0) (ft := 3) Try.underlying51 rfl sz3 rfl rfl) ?_)
        first | (refine Hd.yv (y_load1 ag3 rfl (Rd.pt1 pkk (by (first | exact flat_cells encO 4 (fun _ => rfl) ho 0 _ rfl | rfl)))) ?_) | (refine Hd.yv (y_load1 ag3 rfl (Rd.seg1 pkk (by (first | exact flat_cells encO 4 (fun _ => rfl) ho 0 _ rfl | rfl)))) ?_) | (refine Hd.yv (y_loadR1 ag3 rfl (by (first | exact RdS.own pkk | exact RdS.mono hR (Ent.sep enn))) (by (first | exact flat_cells encO 4 (fun _ => rfl) ho 0 _ rfl | rfl))) ?_)
        refine Hd.nil ?_
        refine Hd.slots [(0, _), (3, _), (4, _), (6, _), (7, _), (36, _), (37, _), (49, _)] ⟨rfl, rfl, rfl, rfl, rfl, rfl, rfl, rfl, trivial⟩ ?_
        refine Hd.toK hK15 ?_
        refine Hd.block ?_
        refine Hd.seq (fun K16 hK16 => ?_)
        refine Hd.region ?_
        first | (refine Hd.yv (y_eqlT rfl rfl) ?_) | (refine Hd.yv (y_eql rfl rfl) ?_)
        refine Hd.yv (y_assign rfl) ?_
        refine Hd.nil ?_
        refine Hd.slots [(0, _), (3, _), (4, _), (6, _), (7, _), (36, _), (37, _), (49, _), (50, _)] ⟨rfl, rfl, rfl, rfl, rfl, rfl, rfl, rfl, rfl, trivial⟩ ?_
        refine Hd.toK hK16 ?_
        refine Hd.cond rfl (fun hc2 => ?_) (fun hc2 => ?_)
        ·
          try simp only [decide_eq_true_eq, decide_eq_false_iff_not, Bool.and_eq_true, Bool.or_eq_true, Bool.and_eq_false_iff, Bool.or_eq_false_iff, Bool.not_eq_true', Bool.not_eq_false', Bool.not_eq_true, Bool.not_eq_false, Int.not_lt, Int.not_le, Decidable.not_not, ne_eq] at hc2
          refine Hd.seq (fun K17 hK17 => ?_)
          refine Hd.region ?_
          refine Hd.yv (y_move rfl) ?_
          refine Hd.yv (y_loadn (us := encI x) ag31 rfl (Rd.pt pkk (fun j v e => by rw [Nat.zero_add]; exact e)) (by exact sz31)) ?_
          refine Hd.callE rfl fk18 (push_ct _ b s (by omega) x) (Ent.sep enn) ?_
          intro _
          refine Hd.yv (y_assign rfl) ?_
          refine Hd.nil ?_
          refine Hd.slots [(0, _), (3, _), (4, _), (6, _), (8, _), (36, _), (37, _)] ⟨rfl, rfl, rfl, rfl, rfl, rfl, rfl, trivial⟩ ?_
          refine Hd.toK hK17 ?_
          refine Hd.region ?_
          refine Hd.yv (y_move rfl) ?_
          refine Hd.yv (y_move rfl) ?_
          refine Hd.yv (y_loadn (us := encI x) ag31 rfl (Rd.pt pkk (fun j v e => by rw [Nat.zero_add]; exact e)) (by exact sz31)) ?_
          refine Hd.callE rfl fk28 (rpush_ct _ b34 s hF x) (Ent.sep enn) ?_
          intro _
          first | (refine Hd.yv (y_to (y_eqlT rfl rfl) (congrArg Value.bool (decide_eq_true (rfl)))) ?_) | (refine Hd.yv (y_to (y_eql rfl rfl) (congrArg Value.bool (decide_eq_true (rfl)))) ?_)
          refine Hd.yv (y_assign rfl) ?_
          refine Hd.nil ?_
          refine Hd.slots [(0, _), (3, _), (4, _), (7, _), (36, _), (37, _)] ⟨rfl, rfl, rfl, rfl, rfl, rfl, trivial⟩ ?_
          refine Hd.inB ?_
          clear hK1 hK2 hK3 hK5 hK6 hK7 hK8 hK9 hK10 hK11 hK12 hK13 hK14 hK15 hK16 hK17
          refine Hd.thenN ?_
          exact Hd.meet (pushS s x) (by repeat (first | exact trivial | refine ⟨rfl, ?_⟩)) (Ent.sep (.pure (by have := pushS_len s x; omega) enn))
        ·
          try simp only [decide_eq_true_eq, decide_eq_false_iff_not, Bool.and_eq_true, Bool.or_eq_true, Bool.and_eq_false_iff, Bool.or_eq_false_iff, Bool.not_eq_true', Bool.not_eq_false', Bool.not_eq_true, Bool.not_eq_false, Int.not_lt, Int.not_le, Decidable.not_not, ne_eq] at hc2
          refine Hd.seq (fun K18 hK18 => ?_)
          refine Hd.region ?_
          first | (refine Hd.yv (y_eqlT rfl rfl) ?_) | (refine Hd.yv (y_eql rfl rfl) ?_)
          refine Hd.yv (y_assign rfl) ?_
          refine Hd.nil ?_
          refine Hd.slots [(0, _), (3, _), (4, _), (6, _), (7, _), (36, _), (37, _), (49, _), (60, _)] ⟨rfl, rfl, rfl, rfl, rfl, rfl, rfl, rfl, rfl, trivial⟩ ?_
          refine Hd.toK hK18 ?_
          refine Hd.cond rfl (fun hc3 => ?_) (fun hc3 => ?_)
          ·
            try simp only [decide_eq_true_eq, decide_eq_false_iff_not, Bool.and_eq_true, Bool.or_eq_true, Bool.and_eq_false_iff, Bool.or_eq_false_iff, Bool.not_eq_true', Bool.not_eq_false', Bool.not_eq_true, Bool.not_eq_false, Int.not_lt, Int.not_le, Decidable.not_not, ne_eq] at hc3
            refine Hd.seq (fun K19 hK19 => ?_)
            refine Hd.region ?_
            refine Hd.yv (y_move rfl) ?_
            refine Hd.callE rfl fk20 (pop_ct _ b s hF.nd) (Ent.sep enn) ?_
            intro _
            refine Hd.yv (y_move rfl) ?_
            refine Hd.yv (y_extract rfl rfl) ?_
            refine Hd.yv (y_extract rfl rfl) ?_
            refine Hd.alloc zr31 (fun b9 => ?_)
            refine Hd.storeA (us := encI (topI s).1) sz31 rfl rfl rfl (encI_one _) pkk (by exact rfl) ?_
            refine Hd.yv (y_assign rfl) ?_
            refine Hd.nil ?_
            refine Hd.slots [(0, _), (3, _), (4, _), (9, _), (10, _), (36, _), (37, _)] ⟨rfl, rfl, rfl, rfl, rfl, rfl, rfl, trivial⟩ ?_
            refine Hd.toK hK19 ?_
            refine Hd.seq (fun K20 hK20 => ?_)
            refine Hd.region ?_
            refine Hd.yv (y_move rfl) ?_
            refine Hd.callE rfl fk29 (rtop_ct _ b34 s) (Ent.sep enn) ?_
            intro _
            refine Hd.yv (y_move rfl) ?_
            refine Hd.yv (y_extract rfl rfl) ?_
            refine Hd.yv (y_extract rfl rfl) ?_
            refine Hd.alloc zr31 (fun b11 => ?_)
            refine Hd.storeA (us := encI (topI s).1) sz31 rfl rfl rfl (encI_one _) pkk (by exact rfl) ?_
            refine Hd.yv (y_assign rfl) ?_
            refine Hd.nil ?_
            refine Hd.slots [(0, _), (3, _), (4, _), (9, _), (10, _), (11, _), (12, _), (36, _), (37, _)] ⟨rfl, rfl, rfl, rfl, rfl, rfl, rfl, rfl, rfl, trivial⟩ ?_
            refine Hd.toK hK20 ?_
            refine Hd.cutK (ι := Unit) [(0, _), (3, _), (4, _), (9, _), (10, _), (11, _), (12, _), (36, _), (37, _)] (fun _ => []) (fun _ => pt b9 (encI (topI s).1) 31 :: pt b11 (encI (topI s).1) 31 :: HpA b s.tail :: RH b34 s.tail :: L) ?_ ?_ ⟨rfl, rfl, rfl, rfl, rfl, rfl, rfl, rfl, rfl, trivial⟩
            ·
              refine Hd.seq (fun K21 hK21 => ?_)
              refine Hd.region ?_
              refine Hd.yv (y_move rfl) ?_
              refine Hd.nil ?_
              refine Hd.slots [(0, _), (3, _), (4, _), (9, _), (10, _), (11, _), (12, _), (36, _), (37, _), (72, _)] ⟨rfl, rfl, rfl, rfl, rfl, rfl, rfl, rfl, rfl, rfl, trivial⟩ ?_
              refine Hd.toK hK21 ?_
              refine Hd.cond rfl (fun hc4 => ?_) (fun hc4 => ?_)
              ·
                try simp only [decide_eq_true_eq, decide_eq_false_iff_not, Bool.and_eq_true, Bool.or_eq_true, Bool.and_eq_false_iff, Bool.or_eq_false_iff, Bool.not_eq_true', Bool.not_eq_false', Bool.not_eq_true, Bool.not_eq_false, Int.not_lt, Int.not_le, Decidable.not_not, ne_eq] at hc4
                refine Hd.region ?_
                refine Hd.yv (y_move rfl) ?_
                first | (refine Hd.yv (y_field' (q := 0) (ft := 3) Try.underlying31 rfl sz3 rfl rfl) ?_) | (refine Hd.yv (y_fieldR (q := 0) (ft := 3) Try.underlying31 rfl sz3 rfl rfl) ?_)
                first | (refine Hd.yv (y_load1 ag3 rfl (Rd.pt1 pkk (by (first | exact flat_cells encO 4 (fun _ => rfl) ho 0 _ rfl | rfl)))) ?_) | (refine Hd.yv (y_load1 ag3 rfl (Rd.seg1 pkk (by (first | exact flat_cells encO 4 (fun _ => rfl) ho 0 _ rfl | rfl)))) ?_) | (refine Hd.yv (y_loadR1 ag3 rfl (by (first | exact RdS.own pkk | exact RdS.mono hR (Ent.sep enn))) (by (first | exact flat_cells encO 4 (fun _ => rfl) ho 0 _ rfl | rfl))) ?_)
                refine Hd.callE rfl fk30 (rtake_ct _ b34 s hF (topI s).1.id) (Ent.sep enn) ?_
                intro _
                refine Hd.nil ?_
                refine Hd.slots [(0, _), (3, _), (4, _), (9, _), (10, _), (11, _), (12, _), (36, _), (37, _)] ⟨rfl, rfl, rfl, rfl, rfl, rfl, rfl, rfl, rfl, trivial⟩ ?_
                clear hK1 hK2 hK3 hK5 hK6 hK7 hK8 hK9 hK10 hK11 hK12 hK13 hK14 hK15 hK16 hK18 hK19 hK20 hK21
                refine Hd.thenN ?_
                have hre : remI (topI s).1.id s = s.tail := by
                  cases s with
                  | nil => rfl
                  | cons y r =>
                    have hnd := hF.nd
                    simp only [List.map_cons, List.nodup_cons] at hnd
                    show remI y.id (y :: r) = r
                    unfold remI
                    rw [List.filter_cons_of_neg (by simp)]
                    exact List.filter_eq_self.2 fun z hz => by
                      have : z.id ≠ y.id := fun q => hnd.1 (by rw [← q]; exact List.mem_map_of_mem hz)
                      simpa using this
                rw [hre]
                exact Hd.meet () (by repeat (first | exact trivial | refine ⟨rfl, ?_⟩)) (Ent.sep enn)
              ·
                try simp only [decide_eq_true_eq, decide_eq_false_iff_not, Bool.and_eq_true, Bool.or_eq_true, Bool.and_eq_false_iff, Bool.or_eq_false_iff, Bool.not_eq_true', Bool.not_eq_false', Bool.not_eq_true, Bool.not_eq_false, Int.not_lt, Int.not_le, Decidable.not_not, ne_eq] at hc4
                refine Hd.skip ?_
                clear hK1 hK2 hK3 hK5 hK6 hK7 hK8 hK9 hK10 hK11 hK12 hK13 hK14 hK15 hK16 hK18 hK19 hK20 hK21
                refine Hd.thenN ?_
                obtain rfl : s = [] := by
                  cases s with
                  | nil => rfl
                  | cons y r => simp [topI] at hc4
                exact Hd.meet () (by repeat (first | exact trivial | refine ⟨rfl, ?_⟩)) (Ent.sep (.pick pkk (.pick pkk (.pick pkk (.eq pkk (RH_eq (by rfl)) enn)))))
            ·
              intro _
              refine Hd.region ?_
              refine Hd.yv (y_loadn (us := encI (topI s).1) ag31 rfl (Rd.pt pkk (fun j v e => by rw [Nat.zero_add]; exact e)) (by exact sz31)) ?_
              refine Hd.yv (y_loadn (us := encI (topI s).1) ag31 rfl (Rd.pt pkk (fun j v e => by rw [Nat.zero_add]; exact e)) (by exact sz31)) ?_
              refine Hd.yv (y_to (v' := .bool true) (y_eql_agg rfl rfl eqt31 rfl ⟨rfl, rfl⟩) (by (rw [allEq_encI]; simp))) ?_
              refine Hd.yv (y_move rfl) ?_
              refine Hd.yg rfl rfl (y_move rfl) ?_
              refine Hd.yg rfl rfl (y_move rfl) ?_
              refine Hd.yg rfl rfl (y_to (v' := .bool true) (y_eqlb Try.underlying4 rfl rfl) (by simp)) ?_
              first | (refine Hd.yv (y_pickT rfl rfl) ?_) | (refine Hd.yv (y_pickF rfl rfl) ?_) | (refine Hd.yv (y_pickb rfl rfl rfl) ?_) | (refine Hd.yv (y_pick rfl rfl rfl) ?_)
              refine Hd.yv (y_assign rfl) ?_
              refine Hd.nil ?_
              refine Hd.slots [(0, _), (3, _), (4, _), (7, _), (36, _), (37, _)] ⟨rfl, rfl, rfl, rfl, rfl, rfl, trivial⟩ ?_
              refine Hd.inB ?_
              clear hK1 hK2 hK3 hK5 hK6 hK7 hK8 hK9 hK10 hK11 hK12 hK13 hK14 hK15 hK16 hK18 hK19 hK20
              refine Hd.thenN ?_
              exact Hd.meet s.tail (by repeat (first | exact trivial | refine ⟨rfl, ?_⟩)) (Ent.sep (.pure (by rw [List.length_tail]; omega) enn))
          ·
            try simp only [decide_eq_true_eq, decide_eq_false_iff_not, Bool.and_eq_true, Bool.or_eq_true, Bool.and_eq_false_iff, Bool.or_eq_false_iff, Bool.not_eq_true', Bool.not_eq_false', Bool.not_eq_true, Bool.not_eq_false, Int.not_lt, Int.not_le, Decidable.not_not, ne_eq] at hc3
            refine Hd.seq (fun K22 hK22 => ?_)
            refine Hd.region ?_
            first | (refine Hd.yv (y_eqlT rfl rfl) ?_) | (refine Hd.yv (y_eql rfl rfl) ?_)
            refine Hd.yv (y_assign rfl) ?_
            refine Hd.nil ?_
            refine Hd.slots [(0, _), (3, _), (4, _), (6, _), (7, _), (36, _), (37, _), (49, _), (85, _)] ⟨rfl, rfl, rfl, rfl, rfl, rfl, rfl, rfl, rfl, trivial⟩ ?_
            refine Hd.toK hK22 ?_
            refine Hd.cond rfl (fun hc5 => ?_) (fun hc5 => ?_)
            ·
              try simp only [decide_eq_true_eq, decide_eq_false_iff_not, Bool.and_eq_true, Bool.or_eq_true, Bool.and_eq_false_iff, Bool.or_eq_false_iff, Bool.not_eq_true', Bool.not_eq_false', Bool.not_eq_true, Bool.not_eq_false, Int.not_lt, Int.not_le, Decidable.not_not, ne_eq] at hc5
              refine Hd.seq (fun K23 hK23 => ?_)
              refine Hd.region ?_
              refine Hd.yv (y_move rfl) ?_
              first | (refine Hd.yv (y_field' (q := 0) (ft := 3) Try.underlying31 rfl sz3 rfl rfl) ?_) | (refine Hd.yv (y_fieldR (q := 0) (ft := 3) Try.underlying31 rfl sz3 rfl rfl) ?_)
              first | (refine Hd.yv (y_load1 ag3 rfl (Rd.pt1 pkk (by (first | exact flat_cells encO 4 (fun _ => rfl) ho 0 _ rfl | rfl)))) ?_) | (refine Hd.yv (y_load1 ag3 rfl (Rd.seg1 pkk (by (first | exact flat_cells encO 4 (fun _ => rfl) ho 0 _ rfl | rfl)))) ?_) | (refine Hd.yv (y_loadR1 ag3 rfl (by (first | exact RdS.own pkk | exact RdS.mono hR (Ent.sep enn))) (by (first | exact flat_cells encO 4 (fun _ => rfl) ho 0 _ rfl | rfl))) ?_)
              refine Hd.callE rfl fk23 (take_ct _ b s x.id) (Ent.sep enn) ?_
              intro _
              refine Hd.yv (y_move rfl) ?_
              refine Hd.yv (y_extract rfl rfl) ?_
              refine Hd.yv (y_extract rfl rfl) ?_
              refine Hd.alloc zr31 (fun b13 => ?_)
              refine Hd.storeA (us := encI (findV (findI x.id s)).1) sz31 rfl rfl rfl (encI_one _) pkk (by exact rfl) ?_
              refine Hd.yv (y_assign rfl) ?_
              refine Hd.nil ?_
              refine Hd.slots [(0, _), (3, _), (4, _), (6, _), (13, _), (14, _), (36, _), (37, _)] ⟨rfl, rfl, rfl, rfl, rfl, rfl, rfl, rfl, trivial⟩ ?_
              refine Hd.toK hK23 ?_
              refine Hd.seq (fun K24 hK24 => ?_)
              refine Hd.region ?_
              refine Hd.yv (y_move rfl) ?_
              first | (refine Hd.yv (y_field' (q := 0) (ft := 3) Try.underlying31 rfl sz3 rfl rfl) ?_) | (refine Hd.yv (y_fieldR (q := 0) (ft := 3) Try.underlying31 rfl sz3 rfl rfl) ?_)
              first | (refine Hd.yv (y_load1 ag3 rfl (Rd.pt1 pkk (by (first | exact flat_cells encO 4 (fun _ => rfl) ho 0 _ rfl | rfl)))) ?_) | (refine Hd.yv (y_load1 ag3 rfl (Rd.seg1 pkk (by (first | exact flat_cells encO 4 (fun _ => rfl) ho 0 _ rfl | rfl)))) ?_) | (refine Hd.yv (y_loadR1 ag3 rfl (by (first | exact RdS.own pkk | exact RdS.mono hR (Ent.sep enn))) (by (first | exact flat_cells encO 4 (fun _ => rfl) ho 0 _ rfl | rfl))) ?_)
              refine Hd.callE rfl fk30 (rtake_ct _ b34 s hF x.id) (Ent.sep enn) ?_
              intro _
              refine Hd.yv (y_move rfl) ?_
              refine Hd.yv (y_extract rfl rfl) ?_
              refine Hd.yv (y_extract rfl rfl) ?_
              refine Hd.alloc zr31 (fun b15 => ?_)
              refine Hd.storeA (us := encI (findV (findI x.id s)).1) sz31 rfl rfl rfl (encI_one _) pkk (by exact rfl) ?_
              refine Hd.yv (y_assign rfl) ?_
              refine Hd.nil ?_
              refine Hd.slots [(0, _), (3, _), (4, _), (13, _), (14, _), (15, _), (16, _), (36, _), (37, _)] ⟨rfl, rfl, rfl, rfl, rfl, rfl, rfl, rfl, rfl, trivial⟩ ?_
              refine Hd.toK hK24 ?_
              refine Hd.region ?_
              refine Hd.yv (y_loadn (us := encI (findV (findI x.id s)).1) ag31 rfl (Rd.pt pkk (fun j v e => by rw [Nat.zero_add]; exact e)) (by exact sz31)) ?_
              refine Hd.yv (y_loadn (us := encI (findV (findI x.id s)).1) ag31 rfl (Rd.pt pkk (fun j v e => by rw [Nat.zero_add]; exact e)) (by exact sz31)) ?_
              refine Hd.yv (y_to (v' := .bool true) (y_eql_agg rfl rfl eqt31 rfl ⟨rfl, rfl⟩) (by (rw [allEq_encI]; simp))) ?_
              refine Hd.yv (y_move rfl) ?_
              refine Hd.yg rfl rfl (y_move rfl) ?_
              refine Hd.yg rfl rfl (y_move rfl) ?_
              refine Hd.yg rfl rfl (y_to (v' := .bool true) (y_eqlb Try.underlying4 rfl rfl) (by simp)) ?_
              first | (refine Hd.yv (y_pickT rfl rfl) ?_) | (refine Hd.yv (y_pickF rfl rfl) ?_) | (refine Hd.yv (y_pickb rfl rfl rfl) ?_) | (refine Hd.yv (y_pick rfl rfl rfl) ?_)
              refine Hd.yv (y_assign rfl) ?_
              refine Hd.nil ?_
              refine Hd.slots [(0, _), (3, _), (4, _), (7, _), (36, _), (37, _)] ⟨rfl, rfl, rfl, rfl, rfl, rfl, trivial⟩ ?_
              refine Hd.inB ?_
              clear hK1 hK2 hK3 hK5 hK6 hK7 hK8 hK9 hK10 hK11 hK12 hK13 hK14 hK15 hK16 hK18 hK22 hK23 hK24
              refine Hd.thenN ?_
              exact Hd.meet (remI x.id s) (by repeat (first | exact trivial | refine ⟨rfl, ?_⟩)) (Ent.sep (.pure (by have := remI_len s x.id; omega) enn))
            ·
              try simp only [decide_eq_true_eq, decide_eq_false_iff_not, Bool.and_eq_true, Bool.or_eq_true, Bool.and_eq_false_iff, Bool.or_eq_false_iff, Bool.not_eq_true', Bool.not_eq_false', Bool.not_eq_true, Bool.not_eq_false, Int.not_lt, Int.not_le, Decidable.not_not, ne_eq] at hc5
              refine Hd.seq (fun K25 hK25 => ?_)
              refine Hd.region ?_
              first | (refine Hd.yv (y_eqlT rfl rfl) ?_) | (refine Hd.yv (y_eql rfl rfl) ?_)
              refine Hd.yv (y_assign rfl) ?_
              refine Hd.nil ?_
              refine Hd.slots [(0, _), (3, _), (4, _), (6, _), (7, _), (36, _), (37, _), (49, _), (109, _)] ⟨rfl, rfl, rfl, rfl, rfl, rfl, rfl, rfl, rfl, trivial⟩ ?_
              refine Hd.toK hK25 ?_
              refine Hd.cond rfl (fun hc6 => ?_) (fun hc6 => ?_)
              ·
                try simp only [decide_eq_true_eq, decide_eq_false_iff_not, Bool.and_eq_true, Bool.or_eq_true, Bool.and_eq_false_iff, Bool.or_eq_false_iff, Bool.not_eq_true', Bool.not_eq_false', Bool.not_eq_true, Bool.not_eq_false, Int.not_lt, Int.not_le, Decidable.not_not, ne_eq] at hc6
                refine Hd.seq (fun K26 hK26 => ?_)
                refine Hd.region ?_
                refine Hd.yv (y_move rfl) ?_
                first | (refine Hd.yv (y_field' (q := 0) (ft := 3) Try.underlying31 rfl sz3 rfl rfl) ?_) | (refine Hd.yv (y_fieldR (q := 0) (ft := 3) Try.underlying31 rfl sz3 rfl rfl) ?_)
                first | (refine Hd.yv (y_load1 ag3 rfl (Rd.pt1 pkk (by (first | exact flat_cells encO 4 (fun _ => rfl) ho 0 _ rfl | rfl)))) ?_) | (refine Hd.yv (y_load1 ag3 rfl (Rd.seg1 pkk (by (first | exact flat_cells encO 4 (fun _ => rfl) ho 0 _ rfl | rfl)))) ?_) | (refine Hd.yv (y_loadR1 ag3 rfl (by (first | exact RdS.own pkk | exact RdS.mono hR (Ent.sep enn))) (by (first | exact flat_cells encO 4 (fun _ => rfl) ho 0 _ rfl | rfl))) ?_)
                first | (refine Hd.yv (y_field' (q := 1) (ft := 29) Try.underlying31 rfl sz29 rfl rfl) ?_) | (refine Hd.yv (y_fieldR (q := 1) (ft := 29) Try.underlying31 rfl sz29 rfl rfl) ?_)
                first | (refine Hd.yv (y_load1 ag29 rfl (Rd.pt1 pkk (by (first | exact flat_cells encO 4 (fun _ => rfl) ho 0 _ rfl | rfl)))) ?_) | (refine Hd.yv (y_load1 ag29 rfl (Rd.seg1 pkk (by (first | exact flat_cells encO 4 (fun _ => rfl) ho 0 _ rfl | rfl)))) ?_) | (refine Hd.yv (y_loadR1 ag29 rfl (by (first | exact RdS.own pkk | exact RdS.mono hR (Ent.sep enn))) (by (first | exact flat_cells encO 4 (fun _ => rfl) ho 0 _ rfl | rfl))) ?_)
                first | (refine Hd.yv (y_field' (q := 2) (ft := 29) Try.underlying31 rfl sz29 rfl rfl) ?_) | (refine Hd.yv (y_fieldR (q := 2) (ft := 29) Try.underlying31 rfl sz29 rfl rfl) ?_)
                first | (refine Hd.yv (y_load1 ag29 rfl (Rd.pt1 pkk (by (first | exact flat_cells encO 4 (fun _ => rfl) ho 0 _ rfl | rfl)))) ?_) | (refine Hd.yv (y_load1 ag29 rfl (Rd.seg1 pkk (by (first | exact flat_cells encO 4 (fun _ => rfl) ho 0 _ rfl | rfl)))) ?_) | (refine Hd.yv (y_loadR1 ag29 rfl (by (first | exact RdS.own pkk | exact RdS.mono hR (Ent.sep enn))) (by (first | exact flat_cells encO 4 (fun _ => rfl) ho 0 _ rfl | rfl))) ?_)
                refine Hd.callE rfl fk25 (move_ct _ b s x) (Ent.sep enn) ?_
                intro _
                refine Hd.yv (y_assign rfl) ?_
                refine Hd.nil ?_
                refine Hd.slots [(0, _), (3, _), (4, _), (6, _), (17, _), (36, _), (37, _)] ⟨rfl, rfl, rfl, rfl, rfl, rfl, rfl, trivial⟩ ?_
                refine Hd.toK hK26 ?_
                refine Hd.region ?_
                refine Hd.yv (y_move rfl) ?_
                refine Hd.yv (y_move rfl) ?_
                first | (refine Hd.yv (y_field' (q := 0) (ft := 3) Try.underlying31 rfl sz3 rfl rfl) ?_) | (refine Hd.yv (y_fieldR (q := 0) (ft := 3) Try.underlying31 rfl sz3 rfl rfl) ?_)
                first | (refine Hd.yv (y_load1 ag3 rfl (Rd.pt1 pkk (by (first | exact flat_cells encO 4 (fun _ => rfl) ho 0 _ rfl | rfl)))) ?_) | (refine Hd.yv (y_load1 ag3 rfl (Rd.seg1 pkk (by (first | exact flat_cells encO 4 (fun _ => rfl) ho 0 _ rfl | rfl)))) ?_) | (refine Hd.yv (y_loadR1 ag3 rfl (by (first | exact RdS.own pkk | exact RdS.mono hR (Ent.sep enn))) (by (first | exact flat_cells encO 4 (fun _ => rfl) ho 0 _ rfl | rfl))) ?_)
                first | (refine Hd.yv (y_field' (q := 1) (ft := 29) Try.underlying31 rfl sz29 rfl rfl) ?_) | (refine Hd.yv (y_fieldR (q := 1) (ft := 29) Try.underlying31 rfl sz29 rfl rfl) ?_)
                first | (refine Hd.yv (y_load1 ag29 rfl (Rd.pt1 pkk (by (first | exact flat_cells encO 4 (fun _ => rfl) ho 0 _ rfl | rfl)))) ?_) | (refine Hd.yv (y_load1 ag29 rfl (Rd.seg1 pkk (by (first | exact flat_cells encO 4 (fun _ => rfl) ho 0 _ rfl | rfl)))) ?_) | (refine Hd.yv (y_loadR1 ag29 rfl (by (first | exact RdS.own pkk | exact RdS.mono hR (Ent.sep enn))) (by (first | exact flat_cells encO 4 (fun _ => rfl) ho 0 _ rfl | rfl))) ?_)
                first | (refine Hd.yv (y_field' (q := 2) (ft := 29) Try.underlying31 rfl sz29 rfl rfl) ?_) | (refine Hd.yv (y_fieldR (q := 2) (ft := 29) Try.underlying31 rfl sz29 rfl rfl) ?_)
                first | (refine Hd.yv (y_load1 ag29 rfl (Rd.pt1 pkk (by (first | exact flat_cells encO 4 (fun _ => rfl) ho 0 _ rfl | rfl)))) ?_) | (refine Hd.yv (y_load1 ag29 rfl (Rd.seg1 pkk (by (first | exact flat_cells encO 4 (fun _ => rfl) ho 0 _ rfl | rfl)))) ?_) | (refine Hd.yv (y_loadR1 ag29 rfl (by (first | exact RdS.own pkk | exact RdS.mono hR (Ent.sep enn))) (by (first | exact flat_cells encO 4 (fun _ => rfl) ho 0 _ rfl | rfl))) ?_)
                refine Hd.callE rfl fk31 (rmove_ct _ b34 s hF x) (Ent.sep enn) ?_
                intro _
                first | (refine Hd.yv (y_to (y_eqlT rfl rfl) (congrArg Value.bool (decide_eq_true (rfl)))) ?_) | (refine Hd.yv (y_to (y_eql rfl rfl) (congrArg Value.bool (decide_eq_true (rfl)))) ?_)
                refine Hd.yv (y_assign rfl) ?_
                refine Hd.nil ?_
                refine Hd.slots [(0, _), (3, _), (4, _), (7, _), (36, _), (37, _)] ⟨rfl, rfl, rfl, rfl, rfl, rfl, trivial⟩ ?_
                refine Hd.inB ?_
                clear hK1 hK2 hK3 hK5 hK6 hK7 hK8 hK9 hK10 hK11 hK12 hK13 hK14 hK15 hK16 hK18 hK22 hK25 hK26
                refine Hd.thenN ?_
                exact Hd.meet (moveS s x) (by repeat (first | exact trivial | refine ⟨rfl, ?_⟩)) (Ent.sep (.pure (by have := moveS_len s x; omega) enn))
              ·
                try simp only [decide_eq_true_eq, decide_eq_false_iff_not, Bool.and_eq_true, Bool.or_eq_true, Bool.and_eq_false_iff, Bool.or_eq_false_iff, Bool.not_eq_true', Bool.not_eq_false', Bool.not_eq_true, Bool.not_eq_false, Int.not_lt, Int.not_le, Decidable.not_not, ne_eq] at hc6
                refine Hd.seq (fun K27 hK27 => ?_)
                refine Hd.region ?_
                first | (refine Hd.yv (y_eqlT rfl rfl) ?_) | (refine Hd.yv (y_eql rfl rfl) ?_)
                refine Hd.yv (y_assign rfl) ?_
                refine Hd.nil ?_
                refine Hd.slots [(0, _), (3, _), (4, _), (6, _), (7, _), (36, _), (37, _), (49, _), (129, _)] ⟨rfl, rfl, rfl, rfl, rfl, rfl, rfl, rfl, rfl, trivial⟩ ?_
                refine Hd.toK hK27 ?_
                refine Hd.cond rfl (fun hc7 => ?_) (fun hc7 => ?_)
                ·
                  try simp only [decide_eq_true_eq, decide_eq_false_iff_not, Bool.and_eq_true, Bool.or_eq_true, Bool.and_eq_false_iff, Bool.or_eq_false_iff, Bool.not_eq_true', Bool.not_eq_false', Bool.not_eq_true, Bool.not_eq_false, Int.not_lt, Int.not_le, Decidable.not_not, ne_eq] at hc7
                  refine Hd.seq (fun K28 hK28 => ?_)
                  refine Hd.region ?_
                  refine Hd.yv (y_move rfl) ?_
                  first | (refine Hd.yv (y_field' (q := 0) (ft := 3) Try.underlying31 rfl sz3 rfl rfl) ?_) | (refine Hd.yv (y_fieldR (q := 0) (ft := 3) Try.underlying31 rfl sz3 rfl rfl) ?_)
                  first | (refine Hd.yv (y_load1 ag3 rfl (Rd.pt1 pkk (by (first | exact flat_cells encO 4 (fun _ => rfl) ho 0 _ rfl | rfl)))) ?_) | (refine Hd.yv (y_load1 ag3 rfl (Rd.seg1 pkk (by (first | exact flat_cells encO 4 (fun _ => rfl) ho 0 _ rfl | rfl)))) ?_) | (refine Hd.yv (y_loadR1 ag3 rfl (by (first | exact RdS.own pkk | exact RdS.mono hR (Ent.sep enn))) (by (first | exact flat_cells encO 4 (fun _ => rfl) ho 0 _ rfl | rfl))) ?_)
                  refine Hd.callE rfl fk26 (find_ct _ b s x.id) (Ent.sep enn) ?_
                  intro _
                  refine Hd.yv (y_move rfl) ?_
                  refine Hd.yv (y_extract rfl rfl) ?_
                  refine Hd.yv (y_extract rfl rfl) ?_
                  refine Hd.alloc zr31 (fun b18 => ?_)
                  refine Hd.storeA (us := encI (findV (findI x.id s)).1) sz31 rfl rfl rfl (encI_one _) pkk (by exact rfl) ?_
                  refine Hd.yv (y_assign rfl) ?_
                  refine Hd.nil ?_
                  refine Hd.slots [(0, _), (3, _), (4, _), (6, _), (18, _), (19, _), (36, _), (37, _)] ⟨rfl, rfl, rfl, rfl, rfl, rfl, rfl, rfl, trivial⟩ ?_
                  refine Hd.toK hK28 ?_
                  refine Hd.seq (fun K29 hK29 => ?_)
                  refine Hd.region ?_
                  refine Hd.yv (y_move rfl) ?_
                  first | (refine Hd.yv (y_field' (q := 0) (ft := 3) Try.underlying31 rfl sz3 rfl rfl) ?_) | (refine Hd.yv (y_fieldR (q := 0) (ft := 3) Try.underlying31 rfl sz3 rfl rfl) ?_)
                  first | (refine Hd.yv (y_load1 ag3 rfl (Rd.pt1 pkk (by (first | exact flat_cells encO 4 (fun _ => rfl) ho 0 _ rfl | rfl)))) ?_) | (refine Hd.yv (y_load1 ag3 rfl (Rd.seg1 pkk (by (first | exact flat_cells encO 4 (fun _ => rfl) ho 0 _ rfl | rfl)))) ?_) | (refine Hd.yv (y_loadR1 ag3 rfl (by (first | exact RdS.own pkk | exact RdS.mono hR (Ent.sep enn))) (by (first | exact flat_cells encO 4 (fun _ => rfl) ho 0 _ rfl | rfl))) ?_)
                  refine Hd.callE rfl fk32 (rfind_ct _ b34 s hF x.id) (Ent.sep enn) ?_
                  intro _
                  refine Hd.yv (y_move rfl) ?_
                  refine Hd.yv (y_extract rfl rfl) ?_
                  refine Hd.yv (y_extract rfl rfl) ?_
                  refine Hd.alloc zr31 (fun b20 => ?_)
                  refine Hd.storeA (us := encI (findV (findI x.id s)).1) sz31 rfl rfl rfl (encI_one _) pkk (by exact rfl) ?_
                  refine Hd.yv (y_assign rfl) ?_
                  refine Hd.nil ?_
                  refine Hd.slots [(0, _), (3, _), (4, _), (18, _), (19, _), (20, _), (21, _), (36, _), (37, _)] ⟨rfl, rfl, rfl, rfl, rfl, rfl, rfl, rfl, rfl, trivial⟩ ?_
                  refine Hd.toK hK29 ?_
                  refine Hd.region ?_
                  refine Hd.yv (y_loadn (us := encI (findV (findI x.id s)).1) ag31 rfl (Rd.pt pkk (fun j v e => by rw [Nat.zero_add]; exact e)) (by exact sz31)) ?_
                  refine Hd.yv (y_loadn (us := encI (findV (findI x.id s)).1) ag31 rfl (Rd.pt pkk (fun j v e => by rw [Nat.zero_add]; exact e)) (by exact sz31)) ?_
                  refine Hd.yv (y_to (v' := .bool true) (y_eql_agg rfl rfl eqt31 rfl ⟨rfl, rfl⟩) (by (rw [allEq_encI]; simp))) ?_
                  refine Hd.yv (y_move rfl) ?_
                  refine Hd.yg rfl rfl (y_move rfl) ?_
                  refine Hd.yg rfl rfl (y_move rfl) ?_
                  refine Hd.yg rfl rfl (y_to (v' := .bool true) (y_eqlb Try.underlying4 rfl rfl) (by simp)) ?_
                  first | (refine Hd.yv (y_pickT rfl rfl) ?_) | (refine Hd.yv (y_pickF rfl rfl) ?_) | (refine Hd.yv (y_pickb rfl rfl rfl) ?_) | (refine Hd.yv (y_pick rfl rfl rfl) ?_)
                  refine Hd.yv (y_assign rfl) ?_
                  refine Hd.nil ?_
                  refine Hd.slots [(0, _), (3, _), (4, _), (7, _), (36, _), (37, _)] ⟨rfl, rfl, rfl, rfl, rfl, rfl, trivial⟩ ?_
                  refine Hd.inB ?_
                  clear hK1 hK2 hK3 hK5 hK6 hK7 hK8 hK9 hK10 hK11 hK12 hK13 hK14 hK15 hK16 hK18 hK22 hK25 hK27 hK28 hK29
                  refine Hd.thenN ?_
                  exact Hd.meet s (by repeat (first | exact trivial | refine ⟨rfl, ?_⟩)) (Ent.sep (.pure (by omega) enn))
                ·
                  try simp only [decide_eq_true_eq, decide_eq_false_iff_not, Bool.and_eq_true, Bool.or_eq_true, Bool.and_eq_false_iff, Bool.or_eq_false_iff, Bool.not_eq_true', Bool.not_eq_false', Bool.not_eq_true, Bool.not_eq_false, Int.not_lt, Int.not_le, Decidable.not_not, ne_eq] at hc7
                  refine Hd.seq (fun K30 hK30 => ?_)
                  refine Hd.region ?_
                  first | (refine Hd.yv (y_eqlT rfl rfl) ?_) | (refine Hd.yv (y_eql rfl rfl) ?_)
                  refine Hd.yv (y_assign rfl) ?_
                  refine Hd.nil ?_
                  refine Hd.slots [(0, _), (3, _), (4, _), (6, _), (7, _), (36, _), (37, _), (153, _)] ⟨rfl, rfl, rfl, rfl, rfl, rfl, rfl, rfl, trivial⟩ ?_
                  refine Hd.toK hK30 ?_
                  refine Hd.cond rfl (fun hc8 => ?_) (fun hc8 => ?_)
                  ·
                    try simp only [decide_eq_true_eq, decide_eq_false_iff_not, Bool.and_eq_true, Bool.or_eq_true, Bool.and_eq_false_iff, Bool.or_eq_false_iff, Bool.not_eq_true', Bool.not_eq_false', Bool.not_eq_true, Bool.not_eq_false, Int.not_lt, Int.not_le, Decidable.not_not, ne_eq] at hc8
                    refine Hd.seq (fun K31 hK31 => ?_)
                    refine Hd.region ?_
                    refine Hd.yv (y_move rfl) ?_
                    first | (refine Hd.yv (y_field' (q := 1) (ft := 29) Try.underlying31 rfl sz29 rfl rfl) ?_) | (refine Hd.yv (y_fieldR (q := 1) (ft := 29) Try.underlying31 rfl sz29 rfl rfl) ?_)
                    first | (refine Hd.yv (y_load1 ag29 rfl (Rd.pt1 pkk (by (first | exact flat_cells encO 4 (fun _ => rfl) ho 0 _ rfl | rfl)))) ?_) | (refine Hd.yv (y_load1 ag29 rfl (Rd.seg1 pkk (by (first | exact flat_cells encO 4 (fun _ => rfl) ho 0 _ rfl | rfl)))) ?_) | (refine Hd.yv (y_loadR1 ag29 rfl (by (first | exact RdS.own pkk | exact RdS.mono hR (Ent.sep enn))) (by (first | exact flat_cells encO 4 (fun _ => rfl) ho 0 _ rfl | rfl))) ?_)
                    refine Hd.callE rfl fk27 (due_ct _ b s x.at_) (Ent.sep enn) ?_
                    rintro ⟨a5, c5⟩
                    dsimp only
                    refine Hd.yv (y_assign rfl) ?_
                    refine Hd.nil ?_
                    refine Hd.slots [(0, _), (3, _), (4, _), (6, _), (22, _), (36, _), (37, _)] ⟨rfl, rfl, rfl, rfl, rfl, rfl, rfl, trivial⟩ ?_
                    refine Hd.toK hK31 ?_
                    refine Hd.region ?_
                    refine Hd.yv (y_move rfl) ?_
                    refine Hd.yv (y_move rfl) ?_
                    first | (refine Hd.yv (y_field' (q := 1) (ft := 29) Try.underlying31 rfl sz29 rfl rfl) ?_) | (refine Hd.yv (y_fieldR (q := 1) (ft := 29) Try.underlying31 rfl sz29 rfl rfl) ?_)
                    first | (refine Hd.yv (y_load1 ag29 rfl (Rd.pt1 pkk (by (first | exact flat_cells encO 4 (fun _ => rfl) ho 0 _ rfl | rfl)))) ?_) | (refine Hd.yv (y_load1 ag29 rfl (Rd.seg1 pkk (by (first | exact flat_cells encO 4 (fun _ => rfl) ho 0 _ rfl | rfl)))) ?_) | (refine Hd.yv (y_loadR1 ag29 rfl (by (first | exact RdS.own pkk | exact RdS.mono hR (Ent.sep enn))) (by (first | exact flat_cells encO 4 (fun _ => rfl) ho 0 _ rfl | rfl))) ?_)
                    refine Hd.callE rfl fk33 (rdue_ct _ b34 s hF x.at_) (Ent.sep enn) ?_
                    rintro ⟨a6, c6⟩
                    dsimp only
                    have hdl : (dueI x.at_ s).length ≤ 1000000 := by have h1 := hF.len; have h2 := (List.takeWhile_prefix (l := s) (fun y : It => decide (y.at_ ≤ x.at_))).length_le; unfold dueI; omega
                    refine Hd.callE rfl fk24 (same_ct _ a5 (dueI x.at_ s).length c5 (dueI x.at_ s) rfl hdl ?h1 a6 (dueI x.at_ s).length c6 (dueI x.at_ s) rfl ?h2) (Ent.sep enn) ?_
                    case h1 => exact RdS.own (ad := a5) pkk
                    case h2 => exact RdS.own (ad := a6) pkk
                    intro bb
                    refine Hd.pure (fun hbb => ?_)
                    obtain rfl : bb = true := by rw [hbb]; simp
                    refine Hd.yv (y_assign rfl) ?_
                    refine Hd.nil ?_
                    refine Hd.slots [(0, _), (3, _), (4, _), (7, _), (36, _), (37, _)] ⟨rfl, rfl, rfl, rfl, rfl, rfl, trivial⟩ ?_
                    refine Hd.inB ?_
                    clear hK1 hK2 hK3 hK5 hK6 hK7 hK8 hK9 hK10 hK11 hK12 hK13 hK14 hK15 hK16 hK18 hK22 hK25 hK27 hK30 hK31
                    refine Hd.thenN ?_
                    exact Hd.meet (restI x.at_ s) (by repeat (first | exact trivial | refine ⟨rfl, ?_⟩)) (Ent.sep (.pure (by have := restI_len s x.at_; omega) enn))
                  ·
                    try simp only [decide_eq_true_eq, decide_eq_false_iff_not, Bool.and_eq_true, Bool.or_eq_true, Bool.and_eq_false_iff, Bool.or_eq_false_iff, Bool.not_eq_true', Bool.not_eq_false', Bool.not_eq_true, Bool.not_eq_false, Int.not_lt, Int.not_le, Decidable.not_not, ne_eq] at hc8
                    refine Hd.skip ?_
                    refine Hd.inB ?_
                    clear hK1 hK2 hK3 hK5 hK6 hK7 hK8 hK9 hK10 hK11 hK12 hK13 hK14 hK15 hK16 hK18 hK22 hK25 hK27 hK30
                    refine Hd.thenN ?_
                    exact Hd.meet s (by repeat (first | exact trivial | refine ⟨rfl, ?_⟩)) (Ent.sep (.pure (by omega) enn))
      ·
        intro s2
        refine Hd.pure (fun hs2 => ?_)
        refine Hd.seq (fun K32 hK32 => ?_)
        refine Hd.region ?_
        refine Hd.yv (y_move rfl) ?_
        refine Hd.callE rfl fk34 (top_ct _ b s2) (Ent.sep enn) ?_
        intro _
        refine Hd.yv (y_move rfl) ?_
        refine Hd.yv (y_extract rfl rfl) ?_
        refine Hd.yv (y_extract rfl rfl) ?_
        refine Hd.alloc zr31 (fun b23 => ?_)
        refine Hd.storeA (us := encI (topI s2).1) sz31 rfl rfl rfl (encI_one _) pkk (by exact rfl) ?_
        refine Hd.yv (y_assign rfl) ?_
        refine Hd.nil ?_
        refine Hd.slots [(0, _), (3, _), (4, _), (7, _), (23, _), (24, _), (36, _), (37, _)] ⟨rfl, rfl, rfl, rfl, rfl, rfl, rfl, rfl, trivial⟩ ?_
        refine Hd.toK hK32 ?_
        refine Hd.seq (fun K33 hK33 => ?_)
        refine Hd.region ?_
        refine Hd.yv (y_move rfl) ?_
        refine Hd.callE rfl fk29 (rtop_ct _ b34 s2) (Ent.sep enn) ?_
        intro _
        refine Hd.yv (y_move rfl) ?_
        refine Hd.yv (y_extract rfl rfl) ?_
        refine Hd.yv (y_extract rfl rfl) ?_
        refine Hd.alloc zr31 (fun b25 => ?_)
        refine Hd.storeA (us := encI (topI s2).1) sz31 rfl rfl rfl (encI_one _) pkk (by exact rfl) ?_
        refine Hd.yv (y_assign rfl) ?_
        refine Hd.nil ?_
        refine Hd.slots [(0, _), (3, _), (4, _), (7, _), (23, _), (24, _), (25, _), (26, _), (36, _), (37, _)] ⟨rfl, rfl, rfl, rfl, rfl, rfl, rfl, rfl, rfl, rfl, trivial⟩ ?_
        refine Hd.toK hK33 ?_
        refine Hd.seq (fun K34 hK34 => ?_)
        refine Hd.region ?_
        refine Hd.yv (y_move rfl) ?_
        refine Hd.callE rfl fk19 (all_ct _ b s2) (Ent.sep enn) ?_
        rintro ⟨a7, c7⟩
        dsimp only
        refine Hd.yv (y_assign rfl) ?_
        refine Hd.nil ?_
        refine Hd.slots [(0, _), (3, _), (4, _), (7, _), (23, _), (24, _), (25, _), (26, _), (27, _), (36, _), (37, _)] ⟨rfl, rfl, rfl, rfl, rfl, rfl, rfl, rfl, rfl, rfl, rfl, trivial⟩ ?_
        refine Hd.toK hK34 ?_
        refine Hd.seq (fun K35 hK35 => ?_)
        refine Hd.seq (fun K36 hK36 => ?_)
        refine Hd.exs (f := fun i : Option Addr × Nat => [pt b34 [.slice i.1 s2.length i.2] 49, OwI i.1 s2.length i.2 s2]) pkk ?_
        rintro ⟨a8, c8⟩
        simp only [List.cons_append, List.nil_append]
        refine Hd.drawsH ([pt b23 (encI (topI s2).1) 31, pt b25 (encI (topI s2).1) 31, pt b34 [.slice a8 s2.length c8] 49]) (fun _ => true) mixed ?_
        simp only [List.length, Nat.zero_add, Nat.reduceAdd]
        refine Hd.takeH 0 rfl (by kernel_rfl) (by kernel_rfl) (by kernel_rfl) (by kernel_rfl) (y_move rfl) (fun _ _ => rfl) (Ent.sep enn) ?_
        refine Hd.takeH 1 rfl (by kernel_rfl) (by kernel_rfl) (by kernel_rfl) (by kernel_rfl) (y_not rfl) (fun _ _ => rfl) (Ent.sep enn) ?_
        refine Hd.takeH 2 rfl (by kernel_rfl) (by kernel_rfl) (by kernel_rfl) (by kernel_rfl) (y_move rfl) (fun _ _ => rfl) (Ent.sep enn) ?_
        first | (refine Hd.takegH 3 rfl (by kernel_rfl) (by kernel_rfl) (by kernel_rfl) (by kernel_rfl) rfl rfl (y_loadn (us := [_, _, _]) ag31 rfl (Rd.pt pkk (by (first | (intro j v e; rcases j with _|_|_|_|_|_|_|_|_|_|_|_|j <;> first | exact e | exact absurd e (by simp))))) (by exact sz31)) (fun _ _ => rfl) (Ent.sep enn) ?_) | (refine Hd.takegH 3 rfl (by kernel_rfl) (by kernel_rfl) (by kernel_rfl) (by kernel_rfl) rfl rfl (y_loadn (us := [_, _, _]) ag31 rfl (Rd.seg pkk (by (first | (intro j v e; rcases j with _|_|_|_|_|_|_|_|_|_|_|_|j <;> first | exact e | exact absurd e (by simp))))) (by exact sz31)) (fun _ _ => rfl) (Ent.sep enn) ?_) | (refine Hd.takegH 3 rfl (by kernel_rfl) (by kernel_rfl) (by kernel_rfl) (by kernel_rfl) rfl rfl (y_loadRn ag31 rfl (by (first | exact RdS.own pkk | exact RdS.mono hR (Ent.sep enn))) (by (first | (intro j v e; rcases j with _|_|_|_|_|_|_|_|_|_|_|_|j <;> first | exact e | exact absurd e (by simp)))) (by exact sz31) (by simp)) (fun _ _ => rfl) (Ent.sep enn) ?_)
        first | (refine Hd.takegH 4 rfl (by kernel_rfl) (by kernel_rfl) (by kernel_rfl) (by kernel_rfl) rfl rfl (y_loadn (us := [_, _, _]) ag31 rfl (Rd.pt pkk (by (first | (intro j v e; rcases j with _|_|_|_|_|_|_|_|_|_|_|_|j <;> first | exact e | exact absurd e (by simp))))) (by exact sz31)) (fun _ _ => rfl) (Ent.sep enn) ?_) | (refine Hd.takegH 4 rfl (by kernel_rfl) (by kernel_rfl) (by kernel_rfl) (by kernel_rfl) rfl rfl (y_loadn (us := [_, _, _]) ag31 rfl (Rd.seg pkk (by (first | (intro j v e; rcases j with _|_|_|_|_|_|_|_|_|_|_|_|j <;> first | exact e | exact absurd e (by simp))))) (by exact sz31)) (fun _ _ => rfl) (Ent.sep enn) ?_) | (refine Hd.takegH 4 rfl (by kernel_rfl) (by kernel_rfl) (by kernel_rfl) (by kernel_rfl) rfl rfl (y_loadRn ag31 rfl (by (first | exact RdS.own pkk | exact RdS.mono hR (Ent.sep enn))) (by (first | (intro j v e; rcases j with _|_|_|_|_|_|_|_|_|_|_|_|j <;> first | exact e | exact absurd e (by simp)))) (by exact sz31) (by simp)) (fun _ _ => rfl) (Ent.sep enn) ?_)
        refine Hd.takegH 5 rfl (by kernel_rfl) (by kernel_rfl) (by kernel_rfl) (by kernel_rfl) rfl rfl (y_to (v' := .bool false) (y_neq_agg rfl rfl eqt31 rfl ⟨rfl, rfl⟩) (by (rw [allEq_encI]; simp))) (fun _ _ => rfl) (Ent.sep enn) ?_
        first | (refine Hd.takeH 6 rfl (by kernel_rfl) (by kernel_rfl) (by kernel_rfl) (by kernel_rfl) (y_pickT rfl rfl) (fun _ _ => rfl) (Ent.sep enn) ?_) | (refine Hd.takeH 6 rfl (by kernel_rfl) (by kernel_rfl) (by kernel_rfl) (by kernel_rfl) (y_pickF rfl rfl) (fun _ _ => rfl) (Ent.sep enn) ?_) | (refine Hd.takeH 6 rfl (by kernel_rfl) (by kernel_rfl) (by kernel_rfl) (by kernel_rfl) (y_pickb rfl rfl rfl) (fun _ _ => rfl) (Ent.sep enn) ?_) | (refine Hd.takeH 6 rfl (by kernel_rfl) (by kernel_rfl) (by kernel_rfl) (by kernel_rfl) (y_pick rfl rfl rfl) (fun _ _ => rfl) (Ent.sep enn) ?_)
        refine Hd.takeH 7 rfl (by kernel_rfl) (by kernel_rfl) (by kernel_rfl) (by kernel_rfl) (y_move rfl) (fun _ _ => rfl) (Ent.sep enn) ?_
        refine Hd.takegH 8 rfl (by kernel_rfl) (by kernel_rfl) (by kernel_rfl) (by kernel_rfl) rfl rfl (y_move rfl) (fun _ _ => rfl) (Ent.sep enn) ?_
        refine Hd.takegH 9 rfl (by kernel_rfl) (by kernel_rfl) (by kernel_rfl) (by kernel_rfl) rfl rfl (y_move rfl) (fun _ _ => rfl) (Ent.sep enn) ?_
        refine Hd.takegH 10 rfl (by kernel_rfl) (by kernel_rfl) (by kernel_rfl) (by kernel_rfl) rfl rfl (y_to (v' := .bool false) (y_neqb Try.underlying4 rfl rfl) (by simp)) (fun _ _ => rfl) (Ent.sep enn) ?_
        first | (refine Hd.takeH 11 rfl (by kernel_rfl) (by kernel_rfl) (by kernel_rfl) (by kernel_rfl) (y_pickT rfl rfl) (fun _ _ => rfl) (Ent.sep enn) ?_) | (refine Hd.takeH 11 rfl (by kernel_rfl) (by kernel_rfl) (by kernel_rfl) (by kernel_rfl) (y_pickF rfl rfl) (fun _ _ => rfl) (Ent.sep enn) ?_) | (refine Hd.takeH 11 rfl (by kernel_rfl) (by kernel_rfl) (by kernel_rfl) (by kernel_rfl) (y_pickb rfl rfl rfl) (fun _ _ => rfl) (Ent.sep enn) ?_) | (refine Hd.takeH 11 rfl (by kernel_rfl) (by kernel_rfl) (by kernel_rfl) (by kernel_rfl) (y_pick rfl rfl rfl) (fun _ _ => rfl) (Ent.sep enn) ?_)
        refine Hd.takeH 12 rfl (by kernel_rfl) (by kernel_rfl) (by kernel_rfl) (by kernel_rfl) (y_move rfl) (fun _ _ => rfl) (Ent.sep enn) ?_
        refine Hd.takegH 13 rfl (by kernel_rfl) (by kernel_rfl) (by kernel_rfl) (by kernel_rfl) rfl rfl (y_move rfl) (fun _ _ => rfl) (Ent.sep enn) ?_
        refine Hd.takegH 15 rfl (by kernel_rfl) (by kernel_rfl) (by kernel_rfl) (by kernel_rfl) rfl rfl (y_move rfl) (fun _ _ => rfl) (Ent.sep enn) ?_
        refine Hd.takegH 16 rfl (by kernel_rfl) (by kernel_rfl) (by kernel_rfl) (by kernel_rfl) rfl rfl (y_nilp rfl) (fun _ _ => rfl) (Ent.sep enn) ?_
        first | (refine Hd.takegH 17 rfl (by kernel_rfl) (by kernel_rfl) (by kernel_rfl) (by kernel_rfl) rfl rfl (y_field' (q := 0) (ft := 22) Try.underlying49 rfl sz22 rfl rfl) (fun _ _ => rfl) (Ent.sep enn) ?_) | (refine Hd.takegH 17 rfl (by kernel_rfl) (by kernel_rfl) (by kernel_rfl) (by kernel_rfl) rfl rfl (y_fieldR (q := 0) (ft := 22) Try.underlying49 rfl sz22 rfl rfl) (fun _ _ => rfl) (Ent.sep enn) ?_)
        first | (refine Hd.takegH 18 rfl (by kernel_rfl) (by kernel_rfl) (by kernel_rfl) (by kernel_rfl) rfl rfl (y_load1 ag22 rfl (Rd.pt1 pkk (by (first | exact flat_cells encO 4 (fun _ => rfl) ho 0 _ rfl | rfl)))) (fun _ _ => rfl) (Ent.sep enn) ?_) | (refine Hd.takegH 18 rfl (by kernel_rfl) (by kernel_rfl) (by kernel_rfl) (by kernel_rfl) rfl rfl (y_load1 ag22 rfl (Rd.seg1 pkk (by (first | exact flat_cells encO 4 (fun _ => rfl) ho 0 _ rfl | rfl)))) (fun _ _ => rfl) (Ent.sep enn) ?_) | (refine Hd.takegH 18 rfl (by kernel_rfl) (by kernel_rfl) (by kernel_rfl) (by kernel_rfl) rfl rfl (y_loadR1 ag22 rfl (by (first | exact RdS.own pkk | exact RdS.mono hR (Ent.sep enn))) (by (first | exact flat_cells encO 4 (fun _ => rfl) ho 0 _ rfl | rfl))) (fun _ _ => rfl) (Ent.sep enn) ?_)
        refine Hd.takegH 19 rfl (by kernel_rfl) (by kernel_rfl) (by kernel_rfl) (by kernel_rfl) rfl rfl (y_len Try.underlying22 rfl) (fun _ _ => rfl) (Ent.sep enn) ?_
        refine Hd.onlyH 14 rfl (by kernel_rfl) ?_
        refine Hd.unguard rfl rfl ?_
        refine Hd.callE rfl fk22 (len_ct _ b s2) (Ent.sep enn) ?_
        intro _
        refine Hd.nil ?_
        refine Hd.thenN ?_
        refine Hd.heldK (J := (fun _ => true)) (i := 14) (Ent.sep enn) ?_
        refine Hd.takegH 20 rfl (by kernel_rfl) (by kernel_rfl) (by kernel_rfl) (by kernel_rfl) rfl rfl (y_to (y_neq rfl rfl) (congrArg Value.bool (decide_eq_false ((fun h => h rfl))))) (fun _ _ => rfl) (Ent.sep enn) ?_
        first | (refine Hd.takeH 21 rfl (by kernel_rfl) (by kernel_rfl) (by kernel_rfl) (by kernel_rfl) (y_pickT rfl rfl) (fun _ _ => rfl) (Ent.sep enn) ?_) | (refine Hd.takeH 21 rfl (by kernel_rfl) (by kernel_rfl) (by kernel_rfl) (by kernel_rfl) (y_pickF rfl rfl) (fun _ _ => rfl) (Ent.sep enn) ?_) | (refine Hd.takeH 21 rfl (by kernel_rfl) (by kernel_rfl) (by kernel_rfl) (by kernel_rfl) (y_pickb rfl rfl rfl) (fun _ _ => rfl) (Ent.sep enn) ?_) | (refine Hd.takeH 21 rfl (by kernel_rfl) (by kernel_rfl) (by kernel_rfl) (by kernel_rfl) (y_pick rfl rfl rfl) (fun _ _ => rfl) (Ent.sep enn) ?_)
        refine Hd.takeH 22 rfl (by kernel_rfl) (by kernel_rfl) (by kernel_rfl) (by kernel_rfl) (y_move rfl) (fun _ _ => rfl) (Ent.sep enn) ?_
        refine Hd.takegH 23 rfl (by kernel_rfl) (by kernel_rfl) (by kernel_rfl) (by kernel_rfl) rfl rfl (y_move rfl) (fun _ _ => rfl) (Ent.sep enn) ?_
        refine Hd.takegH 24 rfl (by kernel_rfl) (by kernel_rfl) (by kernel_rfl) (by kernel_rfl) rfl rfl (y_move rfl) (fun _ _ => rfl) (Ent.sep enn) ?_
        refine Hd.takegH 25 rfl (by kernel_rfl) (by kernel_rfl) (by kernel_rfl) (by kernel_rfl) rfl rfl (y_nilp rfl) (fun _ _ => rfl) (Ent.sep enn) ?_
        first | (refine Hd.takegH 26 rfl (by kernel_rfl) (by kernel_rfl) (by kernel_rfl) (by kernel_rfl) rfl rfl (y_field' (q := 0) (ft := 22) Try.underlying49 rfl sz22 rfl rfl) (fun _ _ => rfl) (Ent.sep enn) ?_) | (refine Hd.takegH 26 rfl (by kernel_rfl) (by kernel_rfl) (by kernel_rfl) (by kernel_rfl) rfl rfl (y_fieldR (q := 0) (ft := 22) Try.underlying49 rfl sz22 rfl rfl) (fun _ _ => rfl) (Ent.sep enn) ?_)
        first | (refine Hd.takegH 27 rfl (by kernel_rfl) (by kernel_rfl) (by kernel_rfl) (by kernel_rfl) rfl rfl (y_load1 ag22 rfl (Rd.pt1 pkk (by (first | exact flat_cells encO 4 (fun _ => rfl) ho 0 _ rfl | rfl)))) (fun _ _ => rfl) (Ent.sep enn) ?_) | (refine Hd.takegH 27 rfl (by kernel_rfl) (by kernel_rfl) (by kernel_rfl) (by kernel_rfl) rfl rfl (y_load1 ag22 rfl (Rd.seg1 pkk (by (first | exact flat_cells encO 4 (fun _ => rfl) ho 0 _ rfl | rfl)))) (fun _ _ => rfl) (Ent.sep enn) ?_) | (refine Hd.takegH 27 rfl (by kernel_rfl) (by kernel_rfl) (by kernel_rfl) (by kernel_rfl) rfl rfl (y_loadR1 ag22 rfl (by (first | exact RdS.own pkk | exact RdS.mono hR (Ent.sep enn))) (by (first | exact flat_cells encO 4 (fun _ => rfl) ho 0 _ rfl | rfl))) (fun _ _ => rfl) (Ent.sep enn) ?_)
        refine Hd.onlyH 28 rfl (by kernel_rfl) ?_
        refine Hd.unguard rfl rfl ?_
        refine Hd.callE rfl fk24 (same_ct _ a7 s2.length c7 s2 rfl (by omega) ?h1 a8 s2.length c8 s2 rfl ?h2) (Ent.sep enn) ?_
        case h1 => exact RdS.own (ad := a7) pkk
        case h2 => exact RdS.own (ad := a8) pkk
        intro bb
        refine Hd.pure (fun hbb => ?_)
        obtain rfl : bb = true := by rw [hbb]; simp
        refine Hd.nil ?_
        refine Hd.thenN ?_
        refine Hd.heldK (J := (fun _ => true)) (i := 28) (Ent.sep enn) ?_
        refine Hd.takegH 29 rfl (by kernel_rfl) (by kernel_rfl) (by kernel_rfl) (by kernel_rfl) rfl rfl (y_not rfl) (fun _ _ => rfl) (Ent.sep enn) ?_
        first | (refine Hd.takeH 30 rfl (by kernel_rfl) (by kernel_rfl) (by kernel_rfl) (by kernel_rfl) (y_pickT rfl rfl) (fun _ _ => rfl) (Ent.sep enn) ?_) | (refine Hd.takeH 30 rfl (by kernel_rfl) (by kernel_rfl) (by kernel_rfl) (by kernel_rfl) (y_pickF rfl rfl) (fun _ _ => rfl) (Ent.sep enn) ?_) | (refine Hd.takeH 30 rfl (by kernel_rfl) (by kernel_rfl) (by kernel_rfl) (by kernel_rfl) (y_pickb rfl rfl rfl) (fun _ _ => rfl) (Ent.sep enn) ?_) | (refine Hd.takeH 30 rfl (by kernel_rfl) (by kernel_rfl) (by kernel_rfl) (by kernel_rfl) (y_pick rfl rfl rfl) (fun _ _ => rfl) (Ent.sep enn) ?_)
        refine Hd.endH (by kernel_rfl) ?_
        refine Hd.slots [(0, _), (3, _), (4, _), (27, _), (36, _), (37, _), (207, _)] ⟨rfl, rfl, rfl, rfl, rfl, rfl, rfl, trivial⟩ ?_
        refine Hd.toK hK36 ?_
        refine Hd.condF rfl ?_
        refine Hd.skip ?_
        refine Hd.toK hK35 ?_
        refine Hd.seq (fun K37 hK37 => ?_)
        refine Hd.region ?_
        refine Hd.yv (y_move rfl) ?_
        refine Hd.yv (y_len Try.underlying22 rfl) ?_
        refine Hd.yv (y_move rfl) ?_
        refine Hd.nil ?_
        refine Hd.slots [(0, _), (3, _), (4, _), (27, _), (36, _), (37, _), (209, _), (210, _)] ⟨rfl, rfl, rfl, rfl, rfl, rfl, rfl, rfl, trivial⟩ ?_
        refine Hd.toK hK37 ?_
        refine Hd.block ?_
        refine Hd.loopK (ι := Nat × List It) [(0, _), (3, _), (4, _), (27, _), (36, _), (37, _), (209, _)] (fun q_ => [(210, .int .i64 (q_.1 : Int))]) (fun q_ => pu (q_.1 ≤ s2.length ∧ q_.2.length = s2.length) :: OwI a7 s2.length c7 q_.2 :: HpA b s2 :: RH b34 s2 :: L) (fun q_ => s2.length - q_.1) (0, s2) (by repeat (first | exact trivial | refine ⟨rfl, ?_⟩)) (by repeat (first | exact trivial | refine ⟨rfl, ?_⟩)) (Ent.sep (.pure ⟨Nat.zero_le _, rfl⟩ (.pick pkk (.pick pkk (.ex (a8, c8) enn))))) ?_
        rintro ⟨k, ys⟩
        try dsimp only
        refine Hd.pure (fun hp1 => ?_)
        try dsimp only at hp1
        refine Hd.seq (fun K38 hK38 => ?_)
        refine Hd.region ?_
        refine Hd.yv (y_lss rfl rfl) ?_
        refine Hd.nil ?_
        refine Hd.slots [(0, _), (3, _), (4, _), (27, _), (36, _), (37, _), (209, _), (210, _), (211, _)] ⟨rfl, rfl, rfl, rfl, rfl, rfl, rfl, rfl, rfl, trivial⟩ ?_
        refine Hd.toK hK38 ?_
        refine Hd.seq (fun K39 hK39 => ?_)
        refine Hd.cond rfl (fun hc10 => ?_) (fun hc10 => ?_)
        ·
          try simp only [decide_eq_true_eq, decide_eq_false_iff_not, Bool.and_eq_true, Bool.or_eq_true, Bool.and_eq_false_iff, Bool.or_eq_false_iff, Bool.not_eq_true', Bool.not_eq_false', Bool.not_eq_true, Bool.not_eq_false, Int.not_lt, Int.not_le, Decidable.not_not, ne_eq] at hc10
          have hk : k < s2.length := by omega
          refine Hd.skip ?_
          refine Hd.toK hK39 ?_
          refine Hd.seq (fun K40 hK40 => ?_)
          refine Hd.block ?_
          refine Hd.seq (fun K41 hK41 => ?_)
          refine Hd.region ?_
          refine Hd.yv (y_move rfl) ?_
          refine Hd.yv (y_assign rfl) ?_
          refine Hd.nil ?_
          refine Hd.slots [(0, _), (3, _), (4, _), (27, _), (28, _), (36, _), (37, _), (209, _), (210, _)] ⟨rfl, rfl, rfl, rfl, rfl, rfl, rfl, rfl, rfl, trivial⟩ ?_
          refine Hd.toK hK41 ?_
          refine Hd.region ?_
          refine Hd.yv (y_move rfl) ?_
          refine Hd.yv (y_move rfl) ?_
          refine Hd.yv (y_build (vs := []) rfl (by first | exact bd8_215 .. | kernel_rfl)) ?_
          first | (refine Hd.yv (y_idxS Try.underlying22 sz31 rfl rfl (by first | omega | decide)) ?_) | (refine Hd.yv (y_idxR Try.underlying22 sz31 rfl rfl (by first | omega | decide) (by (first | exact RdS.own pkk | exact RdS.mono hR (Ent.sep enn)))) ?_)
          refine Hd.storeO (vs := encI z0) sz31 rfl rfl rfl (encI_one z0) pkk (by rw [flat_len]; simp only [List.length]; omega) (by simp) ?_
          refine Hd.nil ?_
          rw [show (ys.flatMap encI).take (k * 3) ++ encI z0 ++ (ys.flatMap encI).drop (k * 3 + (encI z0).length) = (ys.set k z0).flatMap encI from flat_set (by omega)]
          refine Hd.slots [(0, _), (3, _), (4, _), (27, _), (36, _), (37, _), (209, _), (210, _)] ⟨rfl, rfl, rfl, rfl, rfl, rfl, rfl, rfl, trivial⟩ ?_
          refine Hd.inB ?_
          refine Hd.toK hK40 ?_
          refine Hd.region ?_
          first | (refine Hd.yv (y_addn rfl rfl (by simp only [InK]; omega)) ?_) | (refine Hd.yv (y_add rfl rfl) ?_)
          refine Hd.yv (y_move rfl) ?_
          refine Hd.nil ?_
          refine Hd.slots [(0, _), (3, _), (4, _), (27, _), (36, _), (37, _), (209, _), (210, _)] ⟨rfl, rfl, rfl, rfl, rfl, rfl, rfl, rfl, trivial⟩ ?_
          clear hK1 hK2 hK3 hK5 hK6 hK7 hK8 hK9 hK10 hK11 hK12 hK13 hK14 hK32 hK33 hK34 hK35 hK36 hK37 hK38 hK39 hK40 hK41
          refine Hd.thenN ?_
          exact Hd.again (k + 1, ys.set k z0) (by first | omega | (simp only; omega) | (simp; omega)) (by repeat (first | exact trivial | refine ⟨rfl, ?_⟩)) (Ent.sep (.pure ⟨hk, by simpa using hp1.2⟩ enn))
        ·
          try simp only [decide_eq_true_eq, decide_eq_false_iff_not, Bool.and_eq_true, Bool.or_eq_true, Bool.and_eq_false_iff, Bool.or_eq_false_iff, Bool.not_eq_true', Bool.not_eq_false', Bool.not_eq_true, Bool.not_eq_false, Int.not_lt, Int.not_le, Decidable.not_not, ne_eq] at hc10
          refine Hd.exit ?_
          refine Hd.thenExit ?_
          refine Hd.thenExit ?_
          refine Hd.inBexit ?_
          refine Hd.inB ?_
          refine Hd.toK hK11 ?_
          refine Hd.region ?_
          first | (refine Hd.yv (y_addn rfl rfl (by simp only [InK]; omega)) ?_) | (refine Hd.yv (y_add rfl rfl) ?_)
          refine Hd.yv (y_move rfl) ?_
          refine Hd.nil ?_
          refine Hd.slots [(0, _), (3, _), (4, _), (36, _), (37, _)] ⟨rfl, rfl, rfl, rfl, rfl, trivial⟩ ?_
          clear hK1 hK2 hK3 hK5 hK6 hK7 hK8 hK9 hK10 hK11 hK12 hK13 hK14 hK32 hK33 hK34 hK35 hK36 hK37 hK38 hK39
          refine Hd.thenN ?_
          exact Hd.again (i + 1, s2) (by first | omega | (simp only; omega) | (simp; omega)) (by repeat (first | exact trivial | refine ⟨rfl, ?_⟩)) (Ent.sep (.pure ⟨hi, hs2⟩ enn))
    ·
      try simp only [decide_eq_true_eq, decide_eq_false_iff_not, Bool.and_eq_true, Bool.or_eq_true, Bool.and_eq_false_iff, Bool.or_eq_false_iff, Bool.not_eq_true', Bool.not_eq_false', Bool.not_eq_true, Bool.not_eq_false, Int.not_lt, Int.not_le, Decidable.not_not, ne_eq] at hc1
      refine Hd.exit ?_
      refine Hd.thenExit ?_
      refine Hd.thenExit ?_
      refine Hd.inBexit ?_
      refine Hd.toK hK7 ?_
      refine Hd.seq (fun K42 hK42 => ?_)
      refine Hd.region ?_
      refine Hd.yv (y_assign rfl) ?_
      refine Hd.nil ?_
      refine Hd.slots [(2, _)] ⟨rfl, trivial⟩ ?_
      refine Hd.toK hK42 ?_
      refine Hd.ret ?_
      clear hK1 hK2 hK3 hK5 hK6 hK7 hK8 hK9 hK10 hK42
      exact Hd.ret1 rfl () (by first | rfl | (simp only [*]; done) | (simp [*]; done)) (Ent.sep enn)
end Hp
end Go.Proofs.Ytcnegelaenkgpaa
