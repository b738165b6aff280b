/-
  The document's pair in plain words.
-/
import Derived.Test.YtgifpkpkkgkfeaaPb2
namespace Go.Proofs.Ytgifpkpkkgkfeaa
set_option linter.unusedSimpArgs false
set_option linter.unusedVariables false
set_option linter.unnecessarySimpa false
open Go.RX Fx
namespace Pa
open Bc
set_option maxRecDepth 8000
theorem Ct.rfk {P : Program} {f : FuncId} {vs : Array Value} {L : List SP} {br n : Nat} (hn : n < 2) {A : Nat → AE} {ι : Type} {val : ι → Value} {A' : ι → Nat → AE} {X : ι → List SP} {a2 : ι → AE}
    (h : ∀ bE B, Ct P f vs (RHd br bE :: REn bE n (A n) :: B :: L) val (fun i => X i ++ (RHd br bE :: REn bE n (a2 i) :: B :: L)))
    (h2 : ∀ i, A' i n = a2 i ∧ A' i (1 - n) = A (1 - n)) : Ct P f vs (RfP br A :: L) val (fun i => X i ++ RfP br (A' i) :: L) := by
  refine Ct.exs fun bE => ?_
  rcases (show n = 0 ∨ n = 1 by omega) with rfl | rfl
  · refine Ct.imp (h bE (REn bE 1 (A 1))) (fun k s => s) (fun i => ⟨i, rfl, fun k s => ?_⟩)
    refine sep_right (fun k s => ?_) s
    refine Ent.sep (.ex bE ?_) k s
    rw [(h2 i).1, show A' i 1 = A 1 from (h2 i).2]
    exact enn
  · refine Ct.imp (h bE (REn bE 0 (A 0))) (fun k s => ?_) (fun i => ⟨i, rfl, fun k s => ?_⟩)
    · have s0 : sep (RHd br bE :: REn bE 0 (A 0) :: REn bE 1 (A 1) :: L) k := s
      exact Ent.sep enn k s0
    · refine sep_right (fun k s => ?_) s
      refine Ent.sep (.ex bE ?_) k s
      rw [(h2 i).1, show A' i 0 = A 0 from (h2 i).2]
      exact enn
theorem rturnA (L : List SP) (br : Nat) (A : Nat → AE) (k s : Int) (t : Bool) :
    Ct Try.prog 44 #[.pointer (some ⟨br, 0, none⟩), .int .i64 k, .int .i64 s, .bool t] (RfP br A :: L) (fun _ : Unit => .int .i64 (aTurnV k s)) (fun _ => RfP br (aTurn A k s t) :: L) := by
  rcases isE_cases (k := k) with ⟨n, hn, rfl, hk⟩ | ⟨hb, hk⟩
  · have e1 : aTurnV n s = if sideOk s then 0 else 2 := by unfold aTurnV; simp [hk]
    have e2 : aTurn A n s t = upd A n (if sideOk s then (A n).turn s t else A n) := by
      unfold aTurn; simp only [hk, true_and, Int.toNat_natCast]
      split
      · rfl
      · rw [upd_self]
    rw [e1, e2]
    exact Ct.rfk hn (X := fun _ => []) (A' := fun _ => upd A n (if sideOk s then (A n).turn s t else A n)) (fun bE B => rturn_ct (B :: L) br bE n hn (A n) s t) (fun i => ⟨upd_same, upd_other hn⟩)
  · have e1 : aTurnV k s = 2 := by unfold aTurnV; simp [hk]
    have e2 : aTurn A k s t = A := by unfold aTurn; simp [hk]
    rw [e1, e2]
    exact rturn_bad _ _ k hb s t
theorem rmarksA (L : List SP) (br : Nat) (A : Nat → AE) (k side low high : Int) :
    Ct Try.prog 46 #[.pointer (some ⟨br, 0, none⟩), .int .i64 k, .int .i64 side, .int .i64 low, .int .i64 high] (RfP br A :: L) (fun _ : Unit => .int .i64 (aMarksV k side low high)) (fun _ => RfP br (aMarks A k side low high) :: L) := by
  rcases isE_cases (k := k) with ⟨n, hn, rfl, hk⟩ | ⟨hb, hk⟩
  · have e1 : aMarksV n side low high = if mkOk side low high then 0 else 2 := by unfold aMarksV; simp [hk]
    have e2 : aMarks A n side low high = upd A n (if mkOk side low high then (A n).marks side low high else A n) := by
      unfold aMarks; simp only [hk, true_and, Int.toNat_natCast]
      split
      · rfl
      · rw [upd_self]
    rw [e1, e2]
    exact Ct.rfk hn (X := fun _ => []) (A' := fun _ => upd A n (if mkOk side low high then (A n).marks side low high else A n)) (fun bE B => rmarks_ct (B :: L) br bE n hn (A n) side low high) (fun i => ⟨upd_same, upd_other hn⟩)
  · have e1 : aMarksV k side low high = 2 := by unfold aMarksV; simp [hk]
    have e2 : aMarks A k side low high = A := by unfold aMarks; simp [hk]
    rw [e1, e2]
    exact rmarks_bad _ _ k hb side low high
theorem rfinishA (L : List SP) (br : Nat) (A : Nat → AE) (k : Int) :
    Ct Try.prog 49 #[.pointer (some ⟨br, 0, none⟩), .int .i64 k] (RfP br A :: L) (fun _ : Unit => .int .i64 (aFinishV k)) (fun _ => RfP br (aFinish A k) :: L) := by
  rcases isE_cases (k := k) with ⟨n, hn, rfl, hk⟩ | ⟨hb, hk⟩
  · have e1 : aFinishV n = 0 := by unfold aFinishV; simp [hk]
    have e2 : aFinish A n = upd A n { A n with fin := true } := by unfold aFinish; simp [hk]
    rw [e1, e2]
    exact Ct.rfk hn (X := fun _ => []) (A' := fun _ => upd A n { A n with fin := true }) (fun bE B => rfinish_ct (B :: L) br bE n hn (A n)) (fun i => ⟨upd_same, upd_other hn⟩)
  · have e1 : aFinishV k = 2 := by unfold aFinishV; simp [hk]
    have e2 : aFinish A k = A := by unfold aFinish; simp [hk]
    rw [e1, e2]
    exact rfinish_bad _ _ k hb
theorem rwriteA (L : List SP) (br : Nat) (A : Nat → AE) (hA : AOk (A 0) ∧ AOk (A 1)) (k : Int) (ad : Option Addr) (c : Nat) (l : List UInt8) (hD : RdS L 1 ad l.length (bsl l)) (hm : l.length ≤ 70368744177664) :
    Ct Try.prog 47 #[.pointer (some ⟨br, 0, none⟩), .int .i64 k, .slice ad l.length c] (RfP br A :: L) (fun _ : Unit => .int .i64 (aWriteV A k l)) (fun _ => RfP br (aWrite A k l) :: L) := by
  rcases isE_cases (k := k) with ⟨n, hn, rfl, hk⟩ | ⟨hb, hk⟩
  · have e1 : aWriteV A n l = rwrE (A n) l.length := by unfold aWriteV rwrE; simp [hk]
    have e2 : aWrite A n l = upd A n (if rwrE (A n) l.length = 0 then { A n with u := (A n).u ++ l } else A n) := by
      unfold aWrite; rw [e1]; simp only [hk, true_and, Int.toNat_natCast]
      split
      · rfl
      · rw [upd_self]
    rw [e1, e2]
    have hAn : AOk (A n) := by
      rcases (show n = 0 ∨ n = 1 by omega) with rfl | rfl
      · exact hA.1
      · exact hA.2
    exact Ct.rfk hn (X := fun _ => []) (A' := fun _ => upd A n (if rwrE (A n) l.length = 0 then { A n with u := (A n).u ++ l } else A n)) (fun bE B => rwrite_ct (B :: L) br bE n hn (A n) hAn ad c l (RdS.mono hD (fun k s => Ent.sep enn k s)) hm) (fun i => ⟨upd_same, upd_other hn⟩)
  · have e1 : aWriteV A k l = 2 := by unfold aWriteV; simp [hk]
    have e2 : aWrite A k l = A := by unfold aWrite; simp [hk]
    rw [e1, e2]
    exact rwrite_bad _ _ k hb _
theorem rreadA (L : List SP) (br : Nat) (A : Nat → AE) (hA : AOk (A 0) ∧ AOk (A 1)) (k n : Int) (hnn : InK .i64 n) :
    Ct Try.prog 48 #[.pointer (some ⟨br, 0, none⟩), .int .i64 k, .int .i64 n] (RfP br A :: L) (fun i : Option Addr × Nat => .slice i.1 (aReadV A k n).length i.2)
      (fun i => own 5 1 i.1 (aReadV A k n).length (aReadV A k n).length (bsl (aReadV A k n)) :: RfP br (aRead A k n) :: L) := by
  rcases isE_cases (k := k) with ⟨m, hm, rfl, hk⟩ | ⟨hb, hk⟩
  · have e1 : aReadV A m n = (A m).i.take n.toNat := by unfold aReadV; simp [hk]
    have e2 : aRead A m n = upd A m { A m with i := (A m).i.drop n.toNat } := by unfold aRead; simp [hk]
    have hAn : AOk (A m) := by
      rcases (show m = 0 ∨ m = 1 by omega) with rfl | rfl
      · exact hA.1
      · exact hA.2
    rw [e1, e2]
    exact Ct.rfk hm (X := fun i : Option Addr × Nat => [own 5 1 i.1 ((A m).i.take n.toNat).length ((A m).i.take n.toNat).length (bsl ((A m).i.take n.toNat))]) (A' := fun _ => upd A m { A m with i := (A m).i.drop n.toNat }) (fun bE B => rread_ct (B :: L) br bE m hm (A m) hAn n hnn) (fun i => ⟨upd_same, upd_other hm⟩)
  · have e1 : aReadV A k n = [] := by unfold aReadV; simp [hk]
    have e2 : aRead A k n = A := by unfold aRead; simp [hk]
    rw [e1, e2]
    refine Ct.imp (rread_bad (RfP br A :: L) _ k hb n) (fun _ s => s) (fun i => ⟨(none, 0), rfl, fun k s => ?_⟩)
    exact Ent.sep (.ownNil .same) k s
/-! what goes -/
abbrev ToldS (bt : Nat) (S : AS) : SP := pt bt (encV (S.t 0) ++ encV (S.t 1)) 125
theorem rtold_split {bt : Nat} {x y : TV} {L : List SP} {k : PH} (s : sep (pt bt (encV x ++ encV y) 125 :: L) k) : sep (seg bt (0 * 5) (encV x) :: seg bt (1 * 5) (encV y) :: kd bt 10 125 :: L) k :=
  seg_split (us := encV x) (vs := encV y) (pt_open s)
theorem rtold_join {bt : Nat} {x y : TV} {L : List SP} {k : PH} (s : sep (seg bt (0 * 5) (encV x) :: seg bt (1 * 5) (encV y) :: kd bt 10 125 :: L) k) : sep (pt bt (encV x ++ encV y) 125 :: L) k :=
  pt_close (cs := encV x ++ encV y) (seg_join (us := encV x) (vs := encV y) s)
theorem rpassA (L : List SP) (br bt : Nat) (S : AS) (hS : AOkS S) (n : Nat) (hn : n < 2) (fl : Bool) :
    Ct Try.prog 74 #[.pointer (some ⟨br, 0, none⟩), .int .i64 (n : Int), .bool fl, .slice (some ⟨bt, 0, none⟩) 2 2] (RfP br S.e :: ToldS bt S :: L) (fun _ : Unit => .tuple #[]) (fun _ => RfP br (S.pass fl n).e :: ToldS bt (S.pass fl n) :: L) := by
  refine Ct.exs fun bE => ?_
  have hp := S.pass_n fl n
  have ho := S.pass_o fl hn
  refine Ct.imp (rpass_ct (kd bt 10 125 :: L) br bE bt n hn (S.e n) (S.e (1 - n)) fl (hS.at hn) (hS.at (by omega)) (S.t n) (S.t (1 - n))) (fun k s => ?_) (fun i => ⟨(), rfl, fun k s => ?_⟩)
  · have s1 : sep (ToldS bt S :: RHd br bE :: REn bE 0 (S.e 0) :: REn bE 1 (S.e 1) :: L) k := Ent.sep enn k (show sep (RHd br bE :: REn bE 0 (S.e 0) :: REn bE 1 (S.e 1) :: ToldS bt S :: L) k from s)
    have s2 := rtold_split s1
    rcases (show n = 0 ∨ n = 1 by omega) with rfl | rfl
    · exact Ent.sep enn k s2
    · exact Ent.sep enn k s2
  · rw [← hp.1, ← hp.2, ← ho.1, ← ho.2] at s
    generalize S.pass fl n = S2 at *
    have s2 : sep (seg bt (0 * 5) (encV (S2.t 0)) :: seg bt (1 * 5) (encV (S2.t 1)) :: kd bt 10 125 :: RfP br S2.e :: L) k := by
      rcases (show n = 0 ∨ n = 1 by omega) with rfl | rfl
      · exact Ent.sep (.pick pkk (.pick pkk (.pick pkk (.ex bE enn)))) k s
      · exact Ent.sep (.pick pkk (.pick pkk (.pick pkk (.ex bE enn)))) k s
    exact Ent.sep enn k (rtold_join s2)
theorem vt0 : ∀ cs : List Value, cs = (List.range (2 * 5)).map (fun i => [Value.bool false, .bool false, .int .i64 0, .int .i64 0, .int .i64 0].getD (i % 5) (.bool false)) → cs = encV t0 ++ encV t0 := fun cs h => h.trans rfl
set_option maxHeartbeats 2000000 in
theorem rstepA (L : List SP) (br : Nat) (A : Nat → AE) (hA : AOk (A 0) ∧ AOk (A 1)) : Ct Try.prog 51 #[.pointer (some ⟨br, 0, none⟩)] (RfP br A :: L) (fun bt : Nat => .slice (some ⟨bt, 0, none⟩) 2 2) (fun bt : Nat => RfP br (aStep A).e :: ToldS bt (aStep A) :: L) := by
  refine Ct.of (vs := [.pointer (some ⟨br, 0, none⟩)]) Try.func51 rfl rfl [(0, .pointer (some ⟨br, 0, none⟩))] (by repeat (first | exact trivial | refine ⟨rfl, ?_⟩)) ?_
  intro E
  show Hd E 12 _ _ _ _
  refine Hd.seq (fun K1 hK1 => ?_)
  refine Hd.region ?_
  refine Hd.yv (y_assign rfl) ?_
  refine Hd.nil ?_
  refine Hd.slots [(0, _)] ⟨rfl, trivial⟩ ?_
  refine Hd.toK hK1 ?_
  refine Hd.seq (fun K2 hK2 => ?_)
  refine Hd.region ?_
  refine Hd.mkslice Try.underlying85 ty125 zr125 rfl rfl rfl rfl (by decide) (by decide) (by decide) (fun b4 cs4 hcs4 => ?_)
  obtain rfl := vt0 _ hcs4
  refine Hd.yv (y_assign rfl) ?_
  refine Hd.nil ?_
  refine Hd.heap (RfP br (aS0 A).e :: ToldS b4 (aS0 A) :: L) (fun k s => Ent.sep (show Ent _ (RfP br A :: pt b4 (encV t0 ++ encV t0) 125 :: L) from enn) k s) ?_
  refine Hd.slots [(0, _), (3, _)] ⟨rfl, rfl, trivial⟩ ?_
  refine Hd.toK hK2 ?_
  refine Hd.seq (fun K3 hK3 => ?_)
  refine Hd.region ?_
  refine Hd.yv (y_move rfl) ?_
  refine Hd.yv (y_move rfl) ?_
  refine Hd.call rfl fk74 (rpassA _ br b4 (aS0 A) hA 0 (by omega) false) ?_
  intro _
  refine Hd.nil ?_
  refine Hd.slots [(0, _), (3, _)] ⟨rfl, rfl, trivial⟩ ?_
  refine Hd.toK hK3 ?_
  refine Hd.seq (fun K4 hK4 => ?_)
  refine Hd.region ?_
  refine Hd.yv (y_move rfl) ?_
  refine Hd.yv (y_move rfl) ?_
  refine Hd.call rfl fk74 (rpassA _ br b4 ((aS0 A).pass false 0) (AOkS.pass (S := aS0 A) hA false (by omega)) 1 (by omega) false) ?_
  intro _
  refine Hd.nil ?_
  refine Hd.slots [(3, _)] ⟨rfl, trivial⟩ ?_
  refine Hd.toK hK4 ?_
  refine Hd.seq (fun K5 hK5 => ?_)
  refine Hd.region ?_
  refine Hd.yv (y_move rfl) ?_
  refine Hd.yv (y_assign rfl) ?_
  refine Hd.nil ?_
  refine Hd.slots [(2, _)] ⟨rfl, trivial⟩ ?_
  refine Hd.toK hK5 ?_
  refine Hd.ret ?_
  clear hK1 hK2 hK3 hK4 hK5
  exact Hd.ret1 rfl b4 rfl (Ent.sep enn)
set_option maxHeartbeats 2000000 in
theorem rflush_n (L : List SP) (br : Nat) (A : Nat → AE) (hA : AOk (A 0) ∧ AOk (A 1)) (n : Nat) (hn : n < 2) : Ct Try.prog 52 #[.pointer (some ⟨br, 0, none⟩), .int .i64 (n : Int)] (RfP br A :: L) (fun bt : Nat => .slice (some ⟨bt, 0, none⟩) 2 2) (fun bt : Nat => RfP br ((aS0 A).pass true n).e :: ToldS bt ((aS0 A).pass true n) :: L) := by
  refine Ct.of (vs := [.pointer (some ⟨br, 0, none⟩), .int .i64 (n : Int)]) Try.func52 rfl rfl [(0, .pointer (some ⟨br, 0, none⟩)), (1, .int .i64 (n : Int))] (by repeat (first | exact trivial | refine ⟨rfl, ?_⟩)) ?_
  intro E
  show Hd E 18 _ _ _ _
  refine Hd.seq (fun K1 hK1 => ?_)
  refine Hd.region ?_
  refine Hd.yv (y_assign rfl) ?_
  refine Hd.nil ?_
  refine Hd.slots [(0, _), (1, _)] ⟨rfl, rfl, trivial⟩ ?_
  refine Hd.toK hK1 ?_
  refine Hd.seq (fun K2 hK2 => ?_)
  refine Hd.region ?_
  refine Hd.mkslice Try.underlying85 ty125 zr125 rfl rfl rfl rfl (by decide) (by decide) (by decide) (fun b6 cs6 hcs6 => ?_)
  obtain rfl := vt0 _ hcs6
  refine Hd.yv (y_assign rfl) ?_
  refine Hd.nil ?_
  refine Hd.heap (RfP br (aS0 A).e :: ToldS b6 (aS0 A) :: L) (fun k s => Ent.sep (show Ent _ (RfP br A :: pt b6 (encV t0 ++ encV t0) 125 :: L) from enn) k s) ?_
  refine Hd.slots [(0, _), (1, _), (5, _)] ⟨rfl, rfl, rfl, trivial⟩ ?_
  refine Hd.toK hK2 ?_
  refine Hd.seq (fun K3 hK3 => ?_)
  refine Hd.seq (fun K4 hK4 => ?_)
  refine Hd.region ?_
  refine Hd.yv (y_move rfl) ?_
  first | (refine Hd.yv (y_eqlT rfl rfl) ?_) | (refine Hd.yv (y_eql rfl rfl) ?_)
  refine Hd.yv (y_move rfl) ?_
  apply Hd.org 3 9 12 [(0, _), (1, _), (5, _)] rfl ⟨rfl, rfl, rfl, trivial⟩
  · intro hg2_9
    try simp only [decide_eq_true_eq, decide_eq_false_iff_not, Bool.and_eq_true, Bool.or_eq_true, Bool.and_eq_false_iff, Bool.or_eq_false_iff, Bool.not_eq_true', Bool.not_eq_false', Bool.not_eq_true, Bool.not_eq_false, Int.not_lt, Int.not_le, Decidable.not_not, ne_eq] at hg2_9
    simp only [List.take]
    refine Hd.ng rfl rfl rfl ?_
    refine Hd.ng rfl rfl rfl ?_
    first | (refine Hd.yv (y_pickT rfl rfl) ?_) | (refine Hd.yv (y_pickF rfl rfl) ?_) | (refine Hd.yv (y_pickb rfl rfl rfl) ?_) | (refine Hd.yv (y_pick rfl rfl rfl) ?_)
    refine Hd.nil ?_
    exact Hd.mend (by repeat (first | exact trivial | refine ⟨rfl, ?_⟩)) (Ent.sep enn)
  · intro hg2_9
    try simp only [decide_eq_true_eq, decide_eq_false_iff_not, Bool.and_eq_true, Bool.or_eq_true, Bool.and_eq_false_iff, Bool.or_eq_false_iff, Bool.not_eq_true', Bool.not_eq_false', Bool.not_eq_true, Bool.not_eq_false, Int.not_lt, Int.not_le, Decidable.not_not, ne_eq] at hg2_9
    simp only [List.take]
    refine Hd.yg rfl rfl (y_move rfl) ?_
    first | (refine Hd.yg rfl rfl (y_eqlT rfl rfl) ?_) | (refine Hd.yg rfl rfl (y_eql rfl rfl) ?_)
    first | (refine Hd.yv (y_pickT rfl rfl) ?_) | (refine Hd.yv (y_pickF rfl rfl) ?_) | (refine Hd.yv (y_pickb rfl rfl rfl) ?_) | (refine Hd.yv (y_pick rfl rfl rfl) ?_)
    refine Hd.nil ?_
    exact Hd.mend (by repeat (first | exact trivial | refine ⟨rfl, ?_⟩)) (Ent.sep enn)
  simp only [List.drop]
  refine Hd.nil ?_
  refine Hd.slots [(0, _), (1, _), (5, _), (12, _)] ⟨rfl, rfl, rfl, rfl, trivial⟩ ?_
  refine Hd.toK hK4 ?_
  refine Hd.cond rfl (fun hc0 => ?_) (fun hc0 => ?_)
  ·
    try simp only [decide_eq_true_eq, decide_eq_false_iff_not, Bool.and_eq_true, Bool.or_eq_true, Bool.and_eq_false_iff, Bool.or_eq_false_iff, Bool.not_eq_true', Bool.not_eq_false', Bool.not_eq_true, Bool.not_eq_false, Int.not_lt, Int.not_le, Decidable.not_not, ne_eq] at hc0
    refine Hd.region ?_
    refine Hd.yv (y_move rfl) ?_
    refine Hd.yv (y_move rfl) ?_
    refine Hd.yv (y_move rfl) ?_
    refine Hd.call rfl fk74 (rpassA _ br b6 (aS0 A) hA n hn true) ?_
    intro _
    refine Hd.nil ?_
    refine Hd.slots [(5, _)] ⟨rfl, trivial⟩ ?_
    refine Hd.toK hK3 ?_
    refine Hd.seq (fun K5 hK5 => ?_)
    refine Hd.region ?_
    refine Hd.yv (y_move rfl) ?_
    refine Hd.yv (y_assign rfl) ?_
    refine Hd.nil ?_
    refine Hd.slots [(4, _)] ⟨rfl, trivial⟩ ?_
    refine Hd.toK hK5 ?_
    refine Hd.ret ?_
    clear hK1 hK2 hK3 hK4 hK5
    exact Hd.ret1 rfl b6 rfl (Ent.sep enn)
  ·
    try simp only [decide_eq_true_eq, decide_eq_false_iff_not, Bool.and_eq_true, Bool.or_eq_true, Bool.and_eq_false_iff, Bool.or_eq_false_iff, Bool.not_eq_true', Bool.not_eq_false', Bool.not_eq_true, Bool.not_eq_false, Int.not_lt, Int.not_le, Decidable.not_not, ne_eq] at hc0
    exact absurd hc0 (by omega)
set_option maxHeartbeats 2000000 in
theorem rflush_bad (L : List SP) (br : Nat) (A : Nat → AE) (k : Int) (hk : k < 0 ∨ 1 < k) : Ct Try.prog 52 #[.pointer (some ⟨br, 0, none⟩), .int .i64 k] (RfP br A :: L) (fun bt : Nat => .slice (some ⟨bt, 0, none⟩) 2 2) (fun bt : Nat => RfP br (aS0 A).e :: ToldS bt (aS0 A) :: L) := by
  refine Ct.of (vs := [.pointer (some ⟨br, 0, none⟩), .int .i64 k]) Try.func52 rfl rfl [(0, .pointer (some ⟨br, 0, none⟩)), (1, .int .i64 k)] (by repeat (first | exact trivial | refine ⟨rfl, ?_⟩)) ?_
  intro E
  show Hd E 18 _ _ _ _
  refine Hd.seq (fun K1 hK1 => ?_)
  refine Hd.region ?_
  refine Hd.yv (y_assign rfl) ?_
  refine Hd.nil ?_
  refine Hd.slots [(0, _), (1, _)] ⟨rfl, rfl, trivial⟩ ?_
  refine Hd.toK hK1 ?_
  refine Hd.seq (fun K2 hK2 => ?_)
  refine Hd.region ?_
  refine Hd.mkslice Try.underlying85 ty125 zr125 rfl rfl rfl rfl (by decide) (by decide) (by decide) (fun b6 cs6 hcs6 => ?_)
  obtain rfl := vt0 _ hcs6
  refine Hd.yv (y_assign rfl) ?_
  refine Hd.nil ?_
  refine Hd.slots [(0, _), (1, _), (5, _)] ⟨rfl, rfl, rfl, trivial⟩ ?_
  refine Hd.toK hK2 ?_
  refine Hd.seq (fun K3 hK3 => ?_)
  refine Hd.seq (fun K4 hK4 => ?_)
  refine Hd.region ?_
  refine Hd.yv (y_move rfl) ?_
  first | (refine Hd.yv (y_eqlT rfl rfl) ?_) | (refine Hd.yv (y_eql rfl rfl) ?_)
  refine Hd.yv (y_move rfl) ?_
  apply Hd.org 3 9 12 [(0, _), (1, _), (5, _)] rfl ⟨rfl, rfl, rfl, trivial⟩
  · intro hg2_9
    try simp only [decide_eq_true_eq, decide_eq_false_iff_not, Bool.and_eq_true, Bool.or_eq_true, Bool.and_eq_false_iff, Bool.or_eq_false_iff, Bool.not_eq_true', Bool.not_eq_false', Bool.not_eq_true, Bool.not_eq_false, Int.not_lt, Int.not_le, Decidable.not_not, ne_eq] at hg2_9
    simp only [List.take]
    refine Hd.ng rfl rfl rfl ?_
    refine Hd.ng rfl rfl rfl ?_
    first | (refine Hd.yv (y_pickT rfl rfl) ?_) | (refine Hd.yv (y_pickF rfl rfl) ?_) | (refine Hd.yv (y_pickb rfl rfl rfl) ?_) | (refine Hd.yv (y_pick rfl rfl rfl) ?_)
    refine Hd.nil ?_
    exact Hd.mend (by repeat (first | exact trivial | refine ⟨rfl, ?_⟩)) (Ent.sep enn)
  · intro hg2_9
    try simp only [decide_eq_true_eq, decide_eq_false_iff_not, Bool.and_eq_true, Bool.or_eq_true, Bool.and_eq_false_iff, Bool.or_eq_false_iff, Bool.not_eq_true', Bool.not_eq_false', Bool.not_eq_true, Bool.not_eq_false, Int.not_lt, Int.not_le, Decidable.not_not, ne_eq] at hg2_9
    simp only [List.take]
    refine Hd.yg rfl rfl (y_move rfl) ?_
    first | (refine Hd.yg rfl rfl (y_eqlT rfl rfl) ?_) | (refine Hd.yg rfl rfl (y_eql rfl rfl) ?_)
    first | (refine Hd.yv (y_pickT rfl rfl) ?_) | (refine Hd.yv (y_pickF rfl rfl) ?_) | (refine Hd.yv (y_pickb rfl rfl rfl) ?_) | (refine Hd.yv (y_pick rfl rfl rfl) ?_)
    refine Hd.nil ?_
    exact Hd.mend (by repeat (first | exact trivial | refine ⟨rfl, ?_⟩)) (Ent.sep enn)
  simp only [List.drop]
  refine Hd.nil ?_
  refine Hd.slots [(0, _), (1, _), (5, _), (12, _)] ⟨rfl, rfl, rfl, rfl, trivial⟩ ?_
  refine Hd.toK hK4 ?_
  refine Hd.cond rfl (fun hc0 => ?_) (fun hc0 => ?_)
  ·
    try simp only [decide_eq_true_eq, decide_eq_false_iff_not, Bool.and_eq_true, Bool.or_eq_true, Bool.and_eq_false_iff, Bool.or_eq_false_iff, Bool.not_eq_true', Bool.not_eq_false', Bool.not_eq_true, Bool.not_eq_false, Int.not_lt, Int.not_le, Decidable.not_not, ne_eq] at hc0
    exact absurd hc0 (by omega)
  ·
    try simp only [decide_eq_true_eq, decide_eq_false_iff_not, Bool.and_eq_true, Bool.or_eq_true, Bool.and_eq_false_iff, Bool.or_eq_false_iff, Bool.not_eq_true', Bool.not_eq_false', Bool.not_eq_true, Bool.not_eq_false, Int.not_lt, Int.not_le, Decidable.not_not, ne_eq] at hc0
    refine Hd.skip ?_
    refine Hd.toK hK3 ?_
    refine Hd.seq (fun K5 hK5 => ?_)
    refine Hd.region ?_
    refine Hd.yv (y_move rfl) ?_
    refine Hd.yv (y_assign rfl) ?_
    refine Hd.nil ?_
    refine Hd.slots [(4, _)] ⟨rfl, trivial⟩ ?_
    refine Hd.toK hK5 ?_
    refine Hd.ret ?_
    clear hK1 hK2 hK3 hK4 hK5
    exact Hd.ret1 rfl b6 rfl (fun k s => Ent.sep (show Ent _ (RfP br A :: pt b6 (encV t0 ++ encV t0) 125 :: L) from enn) k s)
theorem rflushA (L : List SP) (br : Nat) (A : Nat → AE) (hA : AOk (A 0) ∧ AOk (A 1)) (k : Int) :
    Ct Try.prog 52 #[.pointer (some ⟨br, 0, none⟩), .int .i64 k] (RfP br A :: L) (fun bt : Nat => .slice (some ⟨bt, 0, none⟩) 2 2) (fun bt => RfP br (aFlush A k).e :: ToldS bt (aFlush A k) :: L) := by
  rcases isE_cases (k := k) with ⟨n, hn, rfl, hk⟩ | ⟨hb, hk⟩
  · have e1 : aFlush A n = (aS0 A).pass true n := by unfold aFlush; simp [hk]
    rw [e1]
    exact rflush_n L br A hA n hn
  · have e1 : aFlush A k = aS0 A := by unfold aFlush; simp [hk]
    rw [e1]
    exact rflush_bad L br A k hb
abbrev xn : XA := ((none, 0), (none, 0))
theorem mkRf {b3 b5 : Nat} {A : Nat → AE} {L : List SP} {k : PH} (hA : A 0 = ae0) (s : sep (pt b5 [.slice (some ⟨b3, 0, none⟩) 2 2] 92 :: pt b3 (encR ae0 xn ++ encR ae0 xn) 89 :: L) k) : sep (RfP b5 (fun _ => ae0) :: L) k := by
  have s1 := pt_open s
  have s2 : sep (pt b3 (encR ae0 xn ++ encR ae0 xn) 89 :: seg b5 0 [.slice (some ⟨b3, 0, none⟩) 2 2] :: L) k := Ent.sep enn k s1
  have s3 := seg_split (us := encR ae0 xn) (vs := encR ae0 xn) (pt_open s2)
  have s4 : sep (seg b3 (0 * 9) (encR ae0 xn) :: seg b3 (1 * 9) (encR ae0 xn) :: kd b3 18 89 :: seg b5 0 [.slice (some ⟨b3, 0, none⟩) 2 2] :: L) k := s3
  refine Ent.sep (.ex b3 (.pick pkk (.ex xn (.pick pkk (.ownNil (.ownNil (.ex xn (.pick pkk (.ownNil (.ownNil enn))))))))) ) k s4
set_option maxHeartbeats 2000000 in
theorem rnewA (L : List SP) : Ct Try.prog 43 #[] (L) (fun br : Nat => .pointer (some ⟨br, 0, none⟩)) (fun br : Nat => RfP br (fun _ => ae0) :: L) := by
  refine Ct.of (vs := []) Try.func43 rfl rfl [] (by repeat (first | exact trivial | refine ⟨rfl, ?_⟩)) ?_
  intro E
  show Hd E 6 _ _ _ _
  refine Hd.seq (fun K1 hK1 => ?_)
  refine Hd.region ?_
  refine Hd.yv (y_assign rfl) ?_
  refine Hd.nil ?_
  refine Hd.slots [] trivial ?_
  refine Hd.toK hK1 ?_
  refine Hd.seq (fun K2 hK2 => ?_)
  refine Hd.region ?_
  refine Hd.yv (y_build (vs := [(3, _)]) rfl (by first | exact bd43_1 .. | kernel_rfl)) ?_
  refine Hd.yv (y_build (vs := [(3, _)]) rfl (by first | exact bd43_2 .. | kernel_rfl)) ?_
  refine Hd.bslice (vs := [(0, _), (1, _)]) rfl (by first | exact bs43_3 .. | kernel_rfl) (fun b3 => ?_)
  refine Hd.yv (y_build (vs := [(0, _)]) rfl (by first | exact bd43_4 .. | kernel_rfl)) ?_
  refine Hd.box rfl rfl (fun b5 => ?_)
  refine Hd.yv (y_assign rfl) ?_
  refine Hd.nil ?_
  refine Hd.slots [(0, _)] ⟨rfl, trivial⟩ ?_
  refine Hd.toK hK2 ?_
  refine Hd.ret ?_
  clear hK1 hK2
  exact Hd.ret1 rfl b5 rfl (fun k s => mkRf (A := fun _ => ae0) rfl (Ent.sep (show Ent _ (pt b5 [.slice (some ⟨b3, 0, none⟩) 2 2] 92 :: pt b3 (encR ae0 xn ++ encR ae0 xn) 89 :: L) from enn) k s))
end Pa
end Go.Proofs.Ytgifpkpkkgkfeaa
