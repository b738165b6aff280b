/-
  Epoll: New, none, Interests. Epoll: Interests; risen. Epoll: what rose; what is reported. Epoll: what is reported of an interest. A list of parts of one kind, of which one is taken out and laid back; rows of equal length in one slice. No program is named here. Epoll: what is due. Lists in an order: Shuffle over integers, reports of epoll, notes. Epoll: Due; what is due, collected.
-/
import Derived.Test.YtbfddabjbkohdaaZEplNamesE
namespace Go.Proofs.Ytbfddabjbkohdaa
set_option linter.unusedSimpArgs false
set_option linter.unusedVariables false
set_option linter.unnecessarySimpa false
open Go.RX Fx
namespace Ep
open Wo
set_option maxRecDepth 8000
set_option maxHeartbeats 2000000 in
theorem enone_ct (L : List SP) (pb wb mb : Nat) (limit : Int) : Ct Try.prog 36 #[.pointer (some ⟨pb, 0, none⟩)] (EpH pb wb mb limit :: L) (fun _ : Unit => .bool false) (fun _ : Unit => EpH pb wb mb limit :: L) := by
  refine Ct.of (vs := [.pointer (some ⟨pb, 0, none⟩)]) Try.func36 rfl rfl [(0, .pointer (some ⟨pb, 0, none⟩))] (by repeat (first | exact trivial | refine ⟨rfl, ?_⟩)) ?_
  intro E
  show Hd E 12 _ _ _ _
  refine Hd.seq (fun K1 hK1 => ?_)
  refine Hd.region ?_
  refine Hd.yv (y_assign rfl) ?_
  refine Hd.nil ?_
  refine Hd.slots [(0, _)] ⟨rfl, trivial⟩ ?_
  refine Hd.toK hK1 ?_
  refine Hd.seq (fun K2 hK2 => ?_)
  refine Hd.region ?_
  refine Hd.yv (y_move rfl) ?_
  first | (refine Hd.yv (y_eql_pointer Try.underlying32 rfl rfl) ?_) | (refine Hd.yv (y_eql_one Try.underlying32 sz51 rfl rfl rfl) ?_)
  refine Hd.yv (y_move rfl) ?_
  refine Hd.yg rfl rfl (y_move rfl) ?_
  refine Hd.yg rfl rfl (y_nilp rfl) ?_
  first | (refine Hd.yg rfl rfl (y_field' (q := 0) (ft := 27) Try.underlying51 rfl sz27 rfl rfl) ?_) | (refine Hd.yg rfl rfl (y_fieldR (q := 0) (ft := 27) Try.underlying51 rfl sz27 rfl rfl) ?_)
  first | (refine Hd.yg rfl rfl (y_load1 ag27 rfl (Rd.pt1 pkk (by (first | rfl)))) ?_) | (refine Hd.yg rfl rfl (y_load1 ag27 rfl (Rd.seg1 pkk (by (first | rfl)))) ?_) | (refine Hd.yg rfl rfl (y_loadR1 ag27 rfl (by (first | exact RdS.own pkk)) (by (first | rfl))) ?_)
  first | (refine Hd.yg rfl rfl (y_eql_pointer Try.underlying27 rfl rfl) ?_) | (refine Hd.yg rfl rfl (y_eql_one Try.underlying27 sz80 rfl rfl rfl) ?_)
  first | (refine Hd.yv (y_pickT rfl rfl) ?_) | (refine Hd.yv (y_pickF rfl rfl) ?_) | (refine Hd.yv (y_pickb rfl rfl rfl) ?_) | (refine Hd.yv (y_pick rfl rfl rfl) ?_)
  refine Hd.yv (y_assign rfl) ?_
  refine Hd.nil ?_
  refine Hd.slots [(2, _)] ⟨rfl, trivial⟩ ?_
  refine Hd.toK hK2 ?_
  refine Hd.ret ?_
  clear hK1 hK2
  exact Hd.ret1 rfl () (by first | rfl | (simp only [*]; done) | (simp [*]; done)) (Ent.sep enn)
set_option maxHeartbeats 2000000 in
theorem enone_nil (L : List SP) : Ct Try.prog 36 #[.pointer none] (L) (fun _ : Unit => .bool true) (fun _ : Unit => L) := by
  refine Ct.of (vs := [.pointer none]) Try.func36 rfl rfl [(0, .pointer none)] (by repeat (first | exact trivial | refine ⟨rfl, ?_⟩)) ?_
  intro E
  show Hd E 12 _ _ _ _
  refine Hd.seq (fun K1 hK1 => ?_)
  refine Hd.region ?_
  refine Hd.yv (y_assign rfl) ?_
  refine Hd.nil ?_
  refine Hd.slots [(0, _)] ⟨rfl, trivial⟩ ?_
  refine Hd.toK hK1 ?_
  refine Hd.seq (fun K2 hK2 => ?_)
  refine Hd.region ?_
  refine Hd.yv (y_move rfl) ?_
  first | (refine Hd.yv (y_eql_pointer Try.underlying32 rfl rfl) ?_) | (refine Hd.yv (y_eql_one Try.underlying32 sz51 rfl rfl rfl) ?_)
  refine Hd.yv (y_move rfl) ?_
  refine Hd.ng rfl rfl rfl ?_
  refine Hd.ng rfl rfl rfl ?_
  refine Hd.ng rfl rfl rfl ?_
  refine Hd.ng rfl rfl rfl ?_
  refine Hd.ng rfl rfl rfl ?_
  first | (refine Hd.yv (y_pickT rfl rfl) ?_) | (refine Hd.yv (y_pickF rfl rfl) ?_) | (refine Hd.yv (y_pickb rfl rfl rfl) ?_) | (refine Hd.yv (y_pick rfl rfl rfl) ?_)
  refine Hd.yv (y_assign rfl) ?_
  refine Hd.nil ?_
  refine Hd.slots [(2, _)] ⟨rfl, trivial⟩ ?_
  refine Hd.toK hK2 ?_
  refine Hd.ret ?_
  clear hK1 hK2
  exact Hd.ret1 rfl () (by first | rfl | (simp only [*]; done) | (simp [*]; done)) (Ent.sep enn)
abbrev f0 : Int → Option IxA := fun _ => none
set_option maxHeartbeats 2000000 in
theorem enew_ct (L : List SP) (wb : Nat) (limit : Int) (hl : 0 ≤ limit) : Ct Try.prog 10 #[.pointer (some ⟨wb, 0, none⟩), .int .i64 limit] (L) (fun q_ : Nat × Nat => .tuple #[.pointer (some ⟨q_.1, 0, none⟩), .int .i64 0]) (fun q_ : Nat × Nat => EpH q_.1 wb q_.2 limit :: mp q_.2 .i64 (fmap f0) 0 :: L) := by
  refine Ct.of (vs := [.pointer (some ⟨wb, 0, none⟩), .int .i64 limit]) Try.func10 rfl rfl [(0, .pointer (some ⟨wb, 0, none⟩)), (1, .int .i64 limit)] (by repeat (first | exact trivial | refine ⟨rfl, ?_⟩)) ?_
  intro E
  show Hd E 17 _ _ _ _
  refine Hd.seq (fun K1 hK1 => ?_)
  refine Hd.region ?_
  refine Hd.yv (y_assign rfl) ?_
  refine Hd.yv (y_assign rfl) ?_
  refine Hd.nil ?_
  refine Hd.slots [(0, _), (1, _)] ⟨rfl, rfl, trivial⟩ ?_
  refine Hd.toK hK1 ?_
  refine Hd.seq (fun K2 hK2 => ?_)
  refine Hd.block ?_
  refine Hd.seq (fun K3 hK3 => ?_)
  refine Hd.region ?_
  refine Hd.yv (y_move rfl) ?_
  first | (refine Hd.yv (y_eql_pointer Try.underlying27 rfl rfl) ?_) | (refine Hd.yv (y_eql_one Try.underlying27 sz80 rfl rfl rfl) ?_)
  refine Hd.yv (y_assign rfl) ?_
  refine Hd.nil ?_
  refine Hd.slots [(0, _), (1, _), (6, _)] ⟨rfl, rfl, rfl, trivial⟩ ?_
  refine Hd.toK hK3 ?_
  refine Hd.condF rfl ?_
  refine Hd.seq (fun K4 hK4 => ?_)
  refine Hd.region ?_
  refine Hd.yv (y_move rfl) ?_
  refine Hd.yv (y_lss rfl rfl) ?_
  refine Hd.yv (y_assign rfl) ?_
  refine Hd.nil ?_
  refine Hd.slots [(0, _), (1, _), (9, _)] ⟨rfl, rfl, rfl, trivial⟩ ?_
  refine Hd.toK hK4 ?_
  refine Hd.cond rfl (fun hc1 => ?_) (fun hc1 => ?_)
  ·
    try simp only [decide_eq_true_eq, decide_eq_false_iff_not, Bool.and_eq_true, Bool.or_eq_true, Bool.and_eq_false_iff, Bool.or_eq_false_iff, Bool.not_eq_true', Bool.not_eq_false', Bool.not_eq_true, Bool.not_eq_false, Int.not_lt, Int.not_le, Decidable.not_not, ne_eq] at hc1
    omega
  ·
    try simp only [decide_eq_true_eq, decide_eq_false_iff_not, Bool.and_eq_true, Bool.or_eq_true, Bool.and_eq_false_iff, Bool.or_eq_false_iff, Bool.not_eq_true', Bool.not_eq_false', Bool.not_eq_true, Bool.not_eq_false, Int.not_lt, Int.not_le, Decidable.not_not, ne_eq] at hc1
    refine Hd.skip ?_
    refine Hd.inB ?_
    refine Hd.toK hK2 ?_
    refine Hd.seq (fun K5 hK5 => ?_)
    refine Hd.region ?_
    refine Hd.yv (y_move rfl) ?_
    refine Hd.yv (y_move rfl) ?_
    refine Hd.makeMap .i64 (fun b14 => ?_)
    refine Hd.yv (y_build (vs := [(0, _), (1, _), (2, _)]) rfl (by first | exact bd10_15 .. | kernel_rfl)) ?_
    refine Hd.box rfl rfl (fun b16 => ?_)
    refine Hd.yv (y_assign rfl) ?_
    refine Hd.yv (y_assign rfl) ?_
    refine Hd.nil ?_
    refine Hd.slots [(4, _), (5, _)] ⟨rfl, rfl, trivial⟩ ?_
    refine Hd.toK hK5 ?_
    refine Hd.ret ?_
    clear hK1 hK2 hK3 hK4 hK5
    exact Hd.ret2 rfl (b16, b14) rfl rfl rfl (Ent.sep (.eq pkk (pt_eq (by rfl)) enn))
end Ep
end Go.Proofs.Ytbfddabjbkohdaa
namespace Go.Proofs.Ytbfddabjbkohdaa
set_option linter.unusedSimpArgs false
set_option linter.unusedVariables false
set_option linter.unnecessarySimpa false
open Go.RX Fx
namespace Ep
open Wo
set_option maxRecDepth 8000
abbrev encPo (p : Int × Int) : List Value := [.int .i64 p.1, .int .i64 p.2]
def evE (f : Int → Option IxA) (fd : Int) : Int := ((f fd).getD zIx).events
def intE (f : Int → Option IxA) (ks : List Int) : List (Int × Int) := ks.map fun fd => (fd, evE f fd)
theorem intE_succ (f : Int → Option IxA) {ks : List Int} {i : Nat} (h : i < ks.length) : intE f (ks.take (i + 1)) = intE f (ks.take i) ++ [(ks[i], evE f ks[i])] := by
  unfold intE
  rw [List.take_add_one, List.getElem?_eq_getElem h, List.map_append]; rfl
set_option maxHeartbeats 2000000 in
theorem inter_ct (L : List SP) (pb wb mb : Nat) (limit : Int) (f : Int → Option IxA) (m : Nat) (hm : m ≤ 1000000) (w : WA) : Ct Try.prog 17 #[.pointer (some ⟨pb, 0, none⟩)] (EpH pb wb mb limit :: mp mb .i64 (fmap f) m :: WorldP wb w :: L) (fun q_ : Option Addr × Nat × List Int => .slice q_.1 q_.2.2.length q_.2.1) (fun q_ : Option Addr × Nat × List Int => pu (AllE f m w q_.2.2) :: own 40 2 q_.1 q_.2.2.length q_.2.1 ((intE f q_.2.2).flatMap encPo) :: EpH pb wb mb limit :: mp mb .i64 (fmap f) m :: WorldP wb w :: L) := by
  refine Ct.of (vs := [.pointer (some ⟨pb, 0, none⟩)]) Try.func17 rfl rfl [(0, .pointer (some ⟨pb, 0, none⟩))] (by repeat (first | exact trivial | refine ⟨rfl, ?_⟩)) ?_
  intro E
  show Hd E 29 _ _ _ _
  refine Hd.seq (fun K1 hK1 => ?_)
  refine Hd.region ?_
  refine Hd.yv (y_assign rfl) ?_
  refine Hd.nil ?_
  refine Hd.slots [(0, _)] ⟨rfl, trivial⟩ ?_
  refine Hd.toK hK1 ?_
  refine Hd.seq (fun K2 hK2 => ?_)
  refine Hd.seq (fun K3 hK3 => ?_)
  refine Hd.region ?_
  refine Hd.yv (y_move rfl) ?_
  refine Hd.callE rfl fk36 (enone_ct _ pb wb mb limit) (Ent.sep enn) ?_
  intro _
  refine Hd.nil ?_
  refine Hd.slots [(0, _), (7, _)] ⟨rfl, rfl, trivial⟩ ?_
  refine Hd.toK hK3 ?_
  refine Hd.condF rfl ?_
  refine Hd.skip ?_
  refine Hd.toK hK2 ?_
  refine Hd.seq (fun K4 hK4 => ?_)
  refine Hd.region ?_
  refine Hd.yv (y_assign rfl) ?_
  refine Hd.nil ?_
  refine Hd.slots [(0, _), (3, _)] ⟨rfl, rfl, trivial⟩ ?_
  refine Hd.toK hK4 ?_
  refine Hd.seq (fun K5 hK5 => ?_)
  refine Hd.seq (fun K6 hK6 => ?_)
  refine Hd.region ?_
  refine Hd.yv (y_move rfl) ?_
  refine Hd.callE rfl fk40 (all_ct _ pb wb mb limit f m hm w) (Ent.sep enn) ?_
  rintro ⟨ka, kc, ks⟩
  dsimp only
  refine Hd.pure (fun hA => ?_)
  refine Hd.yv (y_len Try.underlying22 rfl) ?_
  refine Hd.yv (y_move rfl) ?_
  refine Hd.nil ?_
  refine Hd.slots [(0, _), (3, _), (9, _), (10, _), (11, _)] ⟨rfl, rfl, rfl, rfl, rfl, trivial⟩ ?_
  refine Hd.toK hK6 ?_
  refine Hd.block ?_
  refine Hd.loopK (ι := Nat × Option Addr × Nat) [(0, _), (9, _), (10, _)] (fun q_ => [(3, .slice q_.2.1 q_.1 q_.2.2), (11, .int .i64 (q_.1 : Int))]) (fun q_ => pu (q_.1 ≤ ks.length) :: own 40 2 q_.2.1 q_.1 q_.2.2 ((intE f (ks.take q_.1)).flatMap encPo) :: own 3 1 ka ks.length kc (vi ks) :: EpH pb wb mb limit :: mp mb .i64 (fmap f) m :: WorldP wb w :: L) (fun q_ => ks.length - q_.1) (0, none, 0) (by repeat (first | exact trivial | refine ⟨rfl, ?_⟩)) (by repeat (first | exact trivial | refine ⟨rfl, ?_⟩)) (fun q t => Ent.sep (.pure (Nat.zero_le _) (.ownNil .same)) q t) ?_
  rintro ⟨i, ad, c⟩
  try dsimp only
  refine Hd.pure (fun hp0 => ?_)
  try dsimp only at hp0
  refine Hd.seq (fun K7 hK7 => ?_)
  refine Hd.region ?_
  refine Hd.yv (y_lss rfl rfl) ?_
  refine Hd.nil ?_
  refine Hd.slots [(0, _), (3, _), (9, _), (10, _), (11, _), (12, _)] ⟨rfl, rfl, rfl, rfl, rfl, rfl, trivial⟩ ?_
  refine Hd.toK hK7 ?_
  refine Hd.seq (fun K8 hK8 => ?_)
  refine Hd.cond rfl (fun hc1 => ?_) (fun hc1 => ?_)
  ·
    try simp only [decide_eq_true_eq, decide_eq_false_iff_not, Bool.and_eq_true, Bool.or_eq_true, Bool.and_eq_false_iff, Bool.or_eq_false_iff, Bool.not_eq_true', Bool.not_eq_false', Bool.not_eq_true, Bool.not_eq_false, Int.not_lt, Int.not_le, Decidable.not_not, ne_eq] at hc1
    have hi : i < ks.length := by omega
    have hgi := vi_at hi
    have hkl := hA.len
    have hsc := intE_succ f hi
    refine Hd.skip ?_
    refine Hd.toK hK8 ?_
    refine Hd.seq (fun K9 hK9 => ?_)
    refine Hd.block ?_
    refine Hd.seq (fun K10 hK10 => ?_)
    refine Hd.region ?_
    first | (refine Hd.yv (y_idxS Try.underlying22 sz3 rfl rfl (by first | omega | decide)) ?_) | (refine Hd.yv (y_idxR Try.underlying22 sz3 rfl rfl (by first | omega | decide) (by (first | exact RdS.own pkk))) ?_)
    refine Hd.yv (y_loadR1 ag3 rfl (RdS.own (ad := ka) (us := vi ks) pkk) hgi) ?_
    refine Hd.yv (y_assign rfl) ?_
    refine Hd.nil ?_
    refine Hd.slots [(0, _), (3, _), (5, _), (9, _), (10, _), (11, _)] ⟨rfl, rfl, rfl, rfl, rfl, rfl, trivial⟩ ?_
    refine Hd.toK hK10 ?_
    refine Hd.region ?_
    refine Hd.yv (y_move rfl) ?_
    refine Hd.yv (y_move rfl) ?_
    refine Hd.yv (y_move rfl) ?_
    refine Hd.yv (y_nilp rfl) ?_
    first | (refine Hd.yv (y_field' (q := 2) (ft := 49) Try.underlying51 rfl sz49 rfl rfl) ?_) | (refine Hd.yv (y_fieldR (q := 2) (ft := 49) Try.underlying51 rfl sz49 rfl rfl) ?_)
    first | (refine Hd.yv (y_load1 ag49 rfl (Rd.pt1 pkk (by (first | rfl)))) ?_) | (refine Hd.yv (y_load1 ag49 rfl (Rd.seg1 pkk (by (first | rfl)))) ?_) | (refine Hd.yv (y_loadR1 ag49 rfl (by (first | exact RdS.own pkk)) (by (first | rfl))) ?_)
    refine Hd.yv (y_move rfl) ?_
    refine Hd.yv (y_to (v' := .agg (encIx ((f ks[i]).getD zIx)).toArray) (y_lookup mapt49 rfl rfl pkk) (by exact fmap_get f ks[i])) ?_
    refine Hd.yv (y_fieldv1 (q := 1) (ft := 3) (cs := encIx ((f ks[i]).getD zIx)) (v := .int .i64 (evE f ks[i])) Try.underlying93 rfl ag3 rfl rfl) ?_
    refine Hd.yv (y_build (vs := [(0, _), (1, _)]) rfl (by first | exact bd17_24 .. | kernel_rfl)) ?_
    refine Hd.bslice (vs := [(0, _)]) rfl (by first | exact bs17_25 .. | kernel_rfl) (fun b25 => ?_)
    refine Hd.append Try.underlying43 ty40 rfl rfl rfl pkk (by first | exact RdS.rd (Rd.pt pkk (fun j v e => by simpa using e)) rfl | (first | exact RdS.own pkk)) (by first | (simp [Value.oneCell']; done) | assumption) (by first | (simp only [maxLen]; omega) | assumption) (by omega) (fun ad26 cap26 => ?_)
    refine Hd.yv (y_assign rfl) ?_
    refine Hd.nil ?_
    refine Hd.slots [(0, _), (3, _), (9, _), (10, _), (11, _)] ⟨rfl, rfl, rfl, rfl, rfl, trivial⟩ ?_
    refine Hd.inB ?_
    refine Hd.toK hK9 ?_
    refine Hd.region ?_
    first | (refine Hd.yv (y_addn rfl rfl (by simp only [InK]; omega)) ?_) | (refine Hd.yv (y_add rfl rfl) ?_)
    refine Hd.yv (y_move rfl) ?_
    refine Hd.nil ?_
    refine Hd.slots [(0, _), (3, _), (9, _), (10, _), (11, _)] ⟨rfl, rfl, rfl, rfl, rfl, trivial⟩ ?_
    clear hK1 hK2 hK3 hK4 hK5 hK6 hK7 hK8 hK9 hK10
    refine Hd.thenN ?_
    refine Hd.again (i + 1, ad26, cap26) (by show ks.length - (i + 1) < ks.length - i; omega) (by repeat (first | exact trivial | refine ⟨rfl, ?_⟩)) (fun q t => ?_)
    exact Ent.sep (.pure (show i + 1 ≤ ks.length by omega) (.eq pkk (own_eq3 rfl rfl (by simp only [hsc, List.flatMap_append]; rfl)) enn)) q t
  ·
    try simp only [decide_eq_true_eq, decide_eq_false_iff_not, Bool.and_eq_true, Bool.or_eq_true, Bool.and_eq_false_iff, Bool.or_eq_false_iff, Bool.not_eq_true', Bool.not_eq_false', Bool.not_eq_true, Bool.not_eq_false, Int.not_lt, Int.not_le, Decidable.not_not, ne_eq] at hc1
    obtain rfl : i = ks.length := by omega
    rw [List.take_length]
    refine Hd.exit ?_
    refine Hd.thenExit ?_
    refine Hd.thenExit ?_
    refine Hd.inBexit ?_
    refine Hd.toK hK5 ?_
    refine Hd.seq (fun K11 hK11 => ?_)
    refine Hd.region ?_
    refine Hd.yv (y_move rfl) ?_
    refine Hd.yv (y_assign rfl) ?_
    refine Hd.nil ?_
    refine Hd.slots [(2, _)] ⟨rfl, trivial⟩ ?_
    refine Hd.toK hK11 ?_
    refine Hd.ret ?_
    clear hK1 hK2 hK3 hK4 hK5 hK6 hK7 hK8 hK11
    exact Hd.ret1 rfl (ad, c, ks) rfl (Ent.sep (.pure hA enn))
end Ep
end Go.Proofs.Ytbfddabjbkohdaa
namespace Go.Proofs.Ytbfddabjbkohdaa
set_option linter.unusedSimpArgs false
set_option linter.unusedVariables false
set_option linter.unnecessarySimpa false
open Go.RX Fx
namespace Ep
open Wo
set_option maxRecDepth 8000
def rs1 (x : IxA) (r : RdyA) : Int := if r.r > x.reads then bits .or .i64 x.armed 1 else x.armed
def rsE (x : IxA) (r : RdyA) : Int := if r.w > x.writes then bits .or .i64 (rs1 x r) 4 else rs1 x r
set_option maxHeartbeats 2000000 in
theorem risen_ct (L : List SP) (x : IxA) (r : RdyA) : Ct Try.prog 41 #[.agg (encIx x).toArray, .agg (encR r).toArray] (L) (fun _ : Unit => .int .i64 (rsE x r)) (fun _ : Unit => L) := by
  refine Ct.of (vs := [.agg (encIx x).toArray, .agg (encR r).toArray]) Try.func41 rfl rfl [(0, .agg (encIx x).toArray), (1, .agg (encR r).toArray)] (by repeat (first | exact trivial | refine ⟨rfl, ?_⟩)) ?_
  intro E
  show Hd E 23 _ _ _ _
  refine Hd.seq (fun K1 hK1 => ?_)
  refine Hd.region ?_
  refine Hd.box rfl rfl (fun b2 => ?_)
  refine Hd.box rfl rfl (fun b3 => ?_)
  refine Hd.yv (y_assign rfl) ?_
  refine Hd.nil ?_
  refine Hd.slots [(2, _), (3, _)] ⟨rfl, rfl, trivial⟩ ?_
  refine Hd.toK hK1 ?_
  refine Hd.seq (fun K2 hK2 => ?_)
  refine Hd.region ?_
  first | (refine Hd.yv (y_field' (q := 2) (ft := 3) Try.underlying93 rfl sz3 rfl rfl) ?_) | (refine Hd.yv (y_fieldR (q := 2) (ft := 3) Try.underlying93 rfl sz3 rfl rfl) ?_)
  first | (refine Hd.yv (y_load1 ag3 rfl (Rd.pt1 pkk (by (first | rfl)))) ?_) | (refine Hd.yv (y_load1 ag3 rfl (Rd.seg1 pkk (by (first | rfl)))) ?_) | (refine Hd.yv (y_loadR1 ag3 rfl (by (first | exact RdS.own pkk)) (by (first | rfl))) ?_)
  refine Hd.yv (y_assign rfl) ?_
  refine Hd.nil ?_
  refine Hd.slots [(2, _), (3, _), (5, _)] ⟨rfl, rfl, rfl, trivial⟩ ?_
  refine Hd.toK hK2 ?_
  refine Hd.seq (fun K3 hK3 => ?_)
  refine Hd.seq (fun K4 hK4 => ?_)
  refine Hd.region ?_
  first | (refine Hd.yv (y_field' (q := 5) (ft := 78) Try.underlying97 rfl sz78 rfl rfl) ?_) | (refine Hd.yv (y_fieldR (q := 5) (ft := 78) Try.underlying97 rfl sz78 rfl rfl) ?_)
  first | (refine Hd.yv (y_load1 ag78 rfl (Rd.pt1 pkk (by (first | rfl)))) ?_) | (refine Hd.yv (y_load1 ag78 rfl (Rd.seg1 pkk (by (first | rfl)))) ?_) | (refine Hd.yv (y_loadR1 ag78 rfl (by (first | exact RdS.own pkk)) (by (first | rfl))) ?_)
  first | (refine Hd.yv (y_field' (q := 3) (ft := 78) Try.underlying93 rfl sz78 rfl rfl) ?_) | (refine Hd.yv (y_fieldR (q := 3) (ft := 78) Try.underlying93 rfl sz78 rfl rfl) ?_)
  first | (refine Hd.yv (y_load1 ag78 rfl (Rd.pt1 pkk (by (first | rfl)))) ?_) | (refine Hd.yv (y_load1 ag78 rfl (Rd.seg1 pkk (by (first | rfl)))) ?_) | (refine Hd.yv (y_loadR1 ag78 rfl (by (first | exact RdS.own pkk)) (by (first | rfl))) ?_)
  refine Hd.yv (y_gtr rfl rfl) ?_
  refine Hd.nil ?_
  refine Hd.slots [(2, _), (3, _), (5, _), (12, _)] ⟨rfl, rfl, rfl, rfl, trivial⟩ ?_
  refine Hd.toK hK4 ?_
  refine Hd.cond rfl (fun hc0 => ?_) (fun hc0 => ?_)
  ·
    try simp only [decide_eq_true_eq, decide_eq_false_iff_not, Bool.and_eq_true, Bool.or_eq_true, Bool.and_eq_false_iff, Bool.or_eq_false_iff, Bool.not_eq_true', Bool.not_eq_false', Bool.not_eq_true, Bool.not_eq_false, Int.not_lt, Int.not_le, Decidable.not_not, ne_eq] at hc0
    refine Hd.region ?_
    refine Hd.yv (y_move rfl) ?_
    refine Hd.yv (y_or rfl rfl) ?_
    refine Hd.yv (y_assign rfl) ?_
    refine Hd.nil ?_
    refine Hd.slots [(2, _), (3, _), (5, _)] ⟨rfl, rfl, rfl, trivial⟩ ?_
    refine Hd.toK hK3 ?_
    refine Hd.seq (fun K5 hK5 => ?_)
    refine Hd.seq (fun K6 hK6 => ?_)
    refine Hd.region ?_
    first | (refine Hd.yv (y_field' (q := 6) (ft := 78) Try.underlying97 rfl sz78 rfl rfl) ?_) | (refine Hd.yv (y_fieldR (q := 6) (ft := 78) Try.underlying97 rfl sz78 rfl rfl) ?_)
    first | (refine Hd.yv (y_load1 ag78 rfl (Rd.pt1 pkk (by (first | rfl)))) ?_) | (refine Hd.yv (y_load1 ag78 rfl (Rd.seg1 pkk (by (first | rfl)))) ?_) | (refine Hd.yv (y_loadR1 ag78 rfl (by (first | exact RdS.own pkk)) (by (first | rfl))) ?_)
    first | (refine Hd.yv (y_field' (q := 4) (ft := 78) Try.underlying93 rfl sz78 rfl rfl) ?_) | (refine Hd.yv (y_fieldR (q := 4) (ft := 78) Try.underlying93 rfl sz78 rfl rfl) ?_)
    first | (refine Hd.yv (y_load1 ag78 rfl (Rd.pt1 pkk (by (first | rfl)))) ?_) | (refine Hd.yv (y_load1 ag78 rfl (Rd.seg1 pkk (by (first | rfl)))) ?_) | (refine Hd.yv (y_loadR1 ag78 rfl (by (first | exact RdS.own pkk)) (by (first | rfl))) ?_)
    refine Hd.yv (y_gtr rfl rfl) ?_
    refine Hd.nil ?_
    refine Hd.slots [(5, _), (19, _)] ⟨rfl, rfl, trivial⟩ ?_
    refine Hd.toK hK6 ?_
    refine Hd.cond rfl (fun hc1 => ?_) (fun hc1 => ?_)
    ·
      try simp only [decide_eq_true_eq, decide_eq_false_iff_not, Bool.and_eq_true, Bool.or_eq_true, Bool.and_eq_false_iff, Bool.or_eq_false_iff, Bool.not_eq_true', Bool.not_eq_false', Bool.not_eq_true, Bool.not_eq_false, Int.not_lt, Int.not_le, Decidable.not_not, ne_eq] at hc1
      refine Hd.region ?_
      refine Hd.yv (y_move rfl) ?_
      refine Hd.yv (y_or rfl rfl) ?_
      refine Hd.yv (y_assign rfl) ?_
      refine Hd.nil ?_
      refine Hd.slots [(5, _)] ⟨rfl, trivial⟩ ?_
      refine Hd.toK hK5 ?_
      refine Hd.seq (fun K7 hK7 => ?_)
      refine Hd.region ?_
      refine Hd.yv (y_move rfl) ?_
      refine Hd.yv (y_assign rfl) ?_
      refine Hd.nil ?_
      refine Hd.slots [(4, _)] ⟨rfl, trivial⟩ ?_
      refine Hd.toK hK7 ?_
      refine Hd.ret ?_
      clear hK1 hK2 hK3 hK4 hK5 hK6 hK7
      rw [show rsE x r = bits .or .i64 (bits .or .i64 x.armed 1) 4 by
        have e1 : rs1 x r = bits .or .i64 x.armed 1 := if_pos (by omega)
        unfold rsE; rw [if_pos (by omega), e1]]
      exact Hd.ret1 rfl () rfl (Ent.sep enn)
    ·
      try simp only [decide_eq_true_eq, decide_eq_false_iff_not, Bool.and_eq_true, Bool.or_eq_true, Bool.and_eq_false_iff, Bool.or_eq_false_iff, Bool.not_eq_true', Bool.not_eq_false', Bool.not_eq_true, Bool.not_eq_false, Int.not_lt, Int.not_le, Decidable.not_not, ne_eq] at hc1
      refine Hd.skip ?_
      refine Hd.toK hK5 ?_
      refine Hd.seq (fun K8 hK8 => ?_)
      refine Hd.region ?_
      refine Hd.yv (y_move rfl) ?_
      refine Hd.yv (y_assign rfl) ?_
      refine Hd.nil ?_
      refine Hd.slots [(4, _)] ⟨rfl, trivial⟩ ?_
      refine Hd.toK hK8 ?_
      refine Hd.ret ?_
      clear hK1 hK2 hK3 hK4 hK5 hK6 hK8
      rw [show rsE x r = bits .or .i64 x.armed 1 by
        have e1 : rs1 x r = bits .or .i64 x.armed 1 := if_pos (by omega)
        unfold rsE; rw [if_neg (by omega), e1]]
      exact Hd.ret1 rfl () rfl (Ent.sep enn)
  ·
    try simp only [decide_eq_true_eq, decide_eq_false_iff_not, Bool.and_eq_true, Bool.or_eq_true, Bool.and_eq_false_iff, Bool.or_eq_false_iff, Bool.not_eq_true', Bool.not_eq_false', Bool.not_eq_true, Bool.not_eq_false, Int.not_lt, Int.not_le, Decidable.not_not, ne_eq] at hc0
    refine Hd.skip ?_
    refine Hd.toK hK3 ?_
    refine Hd.seq (fun K9 hK9 => ?_)
    refine Hd.seq (fun K10 hK10 => ?_)
    refine Hd.region ?_
    first | (refine Hd.yv (y_field' (q := 6) (ft := 78) Try.underlying97 rfl sz78 rfl rfl) ?_) | (refine Hd.yv (y_fieldR (q := 6) (ft := 78) Try.underlying97 rfl sz78 rfl rfl) ?_)
    first | (refine Hd.yv (y_load1 ag78 rfl (Rd.pt1 pkk (by (first | rfl)))) ?_) | (refine Hd.yv (y_load1 ag78 rfl (Rd.seg1 pkk (by (first | rfl)))) ?_) | (refine Hd.yv (y_loadR1 ag78 rfl (by (first | exact RdS.own pkk)) (by (first | rfl))) ?_)
    first | (refine Hd.yv (y_field' (q := 4) (ft := 78) Try.underlying93 rfl sz78 rfl rfl) ?_) | (refine Hd.yv (y_fieldR (q := 4) (ft := 78) Try.underlying93 rfl sz78 rfl rfl) ?_)
    first | (refine Hd.yv (y_load1 ag78 rfl (Rd.pt1 pkk (by (first | rfl)))) ?_) | (refine Hd.yv (y_load1 ag78 rfl (Rd.seg1 pkk (by (first | rfl)))) ?_) | (refine Hd.yv (y_loadR1 ag78 rfl (by (first | exact RdS.own pkk)) (by (first | rfl))) ?_)
    refine Hd.yv (y_gtr rfl rfl) ?_
    refine Hd.nil ?_
    refine Hd.slots [(5, _), (19, _)] ⟨rfl, rfl, trivial⟩ ?_
    refine Hd.toK hK10 ?_
    refine Hd.cond rfl (fun hc1 => ?_) (fun hc1 => ?_)
    ·
      try simp only [decide_eq_true_eq, decide_eq_false_iff_not, Bool.and_eq_true, Bool.or_eq_true, Bool.and_eq_false_iff, Bool.or_eq_false_iff, Bool.not_eq_true', Bool.not_eq_false', Bool.not_eq_true, Bool.not_eq_false, Int.not_lt, Int.not_le, Decidable.not_not, ne_eq] at hc1
      refine Hd.region ?_
      refine Hd.yv (y_move rfl) ?_
      refine Hd.yv (y_or rfl rfl) ?_
      refine Hd.yv (y_assign rfl) ?_
      refine Hd.nil ?_
      refine Hd.slots [(5, _)] ⟨rfl, trivial⟩ ?_
      refine Hd.toK hK9 ?_
      refine Hd.seq (fun K11 hK11 => ?_)
      refine Hd.region ?_
      refine Hd.yv (y_move rfl) ?_
      refine Hd.yv (y_assign rfl) ?_
      refine Hd.nil ?_
      refine Hd.slots [(4, _)] ⟨rfl, trivial⟩ ?_
      refine Hd.toK hK11 ?_
      refine Hd.ret ?_
      clear hK1 hK2 hK3 hK4 hK9 hK10 hK11
      rw [show rsE x r = bits .or .i64 (x.armed) 4 by
        have e1 : rs1 x r = x.armed := if_neg (by omega)
        unfold rsE; rw [if_pos (by omega), e1]]
      exact Hd.ret1 rfl () rfl (Ent.sep enn)
    ·
      try simp only [decide_eq_true_eq, decide_eq_false_iff_not, Bool.and_eq_true, Bool.or_eq_true, Bool.and_eq_false_iff, Bool.or_eq_false_iff, Bool.not_eq_true', Bool.not_eq_false', Bool.not_eq_true, Bool.not_eq_false, Int.not_lt, Int.not_le, Decidable.not_not, ne_eq] at hc1
      refine Hd.skip ?_
      refine Hd.toK hK9 ?_
      refine Hd.seq (fun K12 hK12 => ?_)
      refine Hd.region ?_
      refine Hd.yv (y_move rfl) ?_
      refine Hd.yv (y_assign rfl) ?_
      refine Hd.nil ?_
      refine Hd.slots [(4, _)] ⟨rfl, trivial⟩ ?_
      refine Hd.toK hK12 ?_
      refine Hd.ret ?_
      clear hK1 hK2 hK3 hK4 hK9 hK10 hK12
      rw [show rsE x r = x.armed by
        have e1 : rs1 x r = x.armed := if_neg (by omega)
        unfold rsE; rw [if_neg (by omega), e1]]
      exact Hd.ret1 rfl () rfl (Ent.sep enn)
end Ep
end Go.Proofs.Ytbfddabjbkohdaa
namespace Go.Proofs.Ytbfddabjbkohdaa
set_option linter.unusedSimpArgs false
set_option linter.unusedVariables false
set_option linter.unnecessarySimpa false
open Go.RX Fx
namespace Ep
open Wo
set_option maxRecDepth 8000
def edgE (x : IxA) : Bool := decide (bits .and .i64 x.events 32 ≠ 0)
def endE (x : IxA) (r : RdyA) : Bool := edgE x && (r.h || r.e)
def nw0 (x : IxA) (r : RdyA) : Int := if (r.i || endE x r) = true then bits .or .i64 0 1 else 0
def nw1 (x : IxA) (r : RdyA) : Int := if (r.o || endE x r) = true then bits .or .i64 (nw0 x r) 4 else nw0 x r
def nw2 (x : IxA) (r : RdyA) : Int := bits .and .i64 (nw1 x r) x.events
def nw3 (x : IxA) (r : RdyA) : Int := if edgE x = true then bits .and .i64 (nw2 x r) (rsE x r) else nw2 x r
def nw4 (x : IxA) (r : RdyA) : Int := if r.h = true then bits .or .i64 (nw3 x r) 16 else nw3 x r
def nw5 (x : IxA) (r : RdyA) : Int := if r.e = true then bits .or .i64 (nw4 x r) 8 else nw4 x r
def nwE (x : IxA) (r : RdyA) : Int := if edgE x = true ∧ nw3 x r = 0 then 0 else nw5 x r
set_option maxHeartbeats 2000000 in
theorem now_ct (L : List SP) (x : IxA) (r : RdyA) : Ct Try.prog 78 #[.agg (encIx x).toArray, .agg (encR r).toArray] (L) (fun _ : Unit => .int .i64 (nwE x r)) (fun _ : Unit => L) := by
  refine Ct.of (vs := [.agg (encIx x).toArray, .agg (encR r).toArray]) Try.func78 rfl rfl [(0, .agg (encIx x).toArray), (1, .agg (encR r).toArray)] (by repeat (first | exact trivial | refine ⟨rfl, ?_⟩)) ?_
  intro E
  show Hd E 56 _ _ _ _
  refine Hd.seq (fun K1 hK1 => ?_)
  refine Hd.region ?_
  refine Hd.box rfl rfl (fun b2 => ?_)
  refine Hd.box rfl rfl (fun b3 => ?_)
  refine Hd.yv (y_assign rfl) ?_
  refine Hd.nil ?_
  refine Hd.slots [(2, _), (3, _)] ⟨rfl, rfl, trivial⟩ ?_
  refine Hd.toK hK1 ?_
  refine Hd.seq (fun K2 hK2 => ?_)
  refine Hd.quiet mixed (by kernel_rfl) ?_
  first | (refine Hq.yv (y_field' (q := 1) (ft := 3) Try.underlying93 rfl sz3 rfl rfl) ?_) | (refine Hq.yv (y_fieldR (q := 1) (ft := 3) Try.underlying93 rfl sz3 rfl rfl) ?_)
  first | (refine Hq.yv (y_load1 ag3 rfl (Rd.pt1 pkk (by (first | rfl)))) ?_) | (refine Hq.yv (y_load1 ag3 rfl (Rd.seg1 pkk (by (first | rfl)))) ?_) | (refine Hq.yv (y_loadR1 ag3 rfl (by (first | exact RdS.own pkk)) (by (first | rfl))) ?_)
  refine Hq.yv (y_and rfl rfl) ?_
  refine Hq.yv (y_neq rfl rfl) ?_
  refine Hq.yv (y_assign rfl) ?_
  refine Hq.yv (y_to (v' := .bool (edgE x)) (y_assign rfl) (by rfl)) ?_
  refine Hq.nil ?_
  refine Hd.slots [(2, _), (3, _), (5, _), (6, _)] ⟨rfl, rfl, rfl, rfl, trivial⟩ ?_
  refine Hd.toK hK2 ?_
  refine Hd.seq (fun K3 hK3 => ?_)
  refine Hd.region ?_
  refine Hd.yv (y_move rfl) ?_
  refine Hd.yv (y_move rfl) ?_
  apply Hd.andg (q := (r.h || r.e)) 7 13 20 [(2, _), (3, _), (5, _), (6, _)] rfl ⟨rfl, rfl, rfl, rfl, trivial⟩
  · intro hg2_13
    try simp only [decide_eq_true_eq, decide_eq_false_iff_not, Bool.and_eq_true, Bool.or_eq_true, Bool.and_eq_false_iff, Bool.or_eq_false_iff, Bool.not_eq_true', Bool.not_eq_false', Bool.not_eq_true, Bool.not_eq_false, Int.not_lt, Int.not_le, Decidable.not_not, ne_eq] at hg2_13
    simp only [List.take]
    first | (refine Hd.yg rfl rfl (y_field' (q := 3) (ft := 4) Try.underlying97 rfl sz4 rfl rfl) ?_) | (refine Hd.yg rfl rfl (y_fieldR (q := 3) (ft := 4) Try.underlying97 rfl sz4 rfl rfl) ?_)
    first | (refine Hd.yg rfl rfl (y_load1 ag4 rfl (Rd.pt1 pkk (by (first | rfl)))) ?_) | (refine Hd.yg rfl rfl (y_load1 ag4 rfl (Rd.seg1 pkk (by (first | rfl)))) ?_) | (refine Hd.yg rfl rfl (y_loadR1 ag4 rfl (by (first | exact RdS.own pkk)) (by (first | rfl))) ?_)
    refine Hd.yg rfl rfl (y_move rfl) ?_
    apply Hd.org 3 16 19 [(2, _), (3, _), (5, _), (6, _), (13, _)] rfl ⟨rfl, rfl, rfl, rfl, rfl, trivial⟩
    · intro hg2_16
      try simp only [decide_eq_true_eq, decide_eq_false_iff_not, Bool.and_eq_true, Bool.or_eq_true, Bool.and_eq_false_iff, Bool.or_eq_false_iff, Bool.not_eq_true', Bool.not_eq_false', Bool.not_eq_true, Bool.not_eq_false, Int.not_lt, Int.not_le, Decidable.not_not, ne_eq] at hg2_16
      simp only [List.take]
      refine Hd.ng rfl rfl rfl ?_
      refine Hd.ng rfl rfl rfl ?_
      first | (refine Hd.yg rfl rfl (y_pickT rfl rfl) ?_) | (refine Hd.yg rfl rfl (y_pickF rfl rfl) ?_) | (refine Hd.yg rfl rfl (y_pickb rfl rfl rfl) ?_) | (refine Hd.yg rfl rfl (y_pick rfl rfl rfl) ?_)
      refine Hd.nil ?_
      exact Hd.mend (by repeat (first | exact trivial | refine ⟨rfl, ?_⟩)) (Ent.sep enn)
    · intro hg2_16
      try simp only [decide_eq_true_eq, decide_eq_false_iff_not, Bool.and_eq_true, Bool.or_eq_true, Bool.and_eq_false_iff, Bool.or_eq_false_iff, Bool.not_eq_true', Bool.not_eq_false', Bool.not_eq_true, Bool.not_eq_false, Int.not_lt, Int.not_le, Decidable.not_not, ne_eq] at hg2_16
      simp only [List.take]
      first | (refine Hd.yg rfl rfl (y_field' (q := 4) (ft := 4) Try.underlying97 rfl sz4 rfl rfl) ?_) | (refine Hd.yg rfl rfl (y_fieldR (q := 4) (ft := 4) Try.underlying97 rfl sz4 rfl rfl) ?_)
      first | (refine Hd.yg rfl rfl (y_load1 ag4 rfl (Rd.pt1 pkk (by (first | rfl)))) ?_) | (refine Hd.yg rfl rfl (y_load1 ag4 rfl (Rd.seg1 pkk (by (first | rfl)))) ?_) | (refine Hd.yg rfl rfl (y_loadR1 ag4 rfl (by (first | exact RdS.own pkk)) (by (first | rfl))) ?_)
      first | (refine Hd.yg rfl rfl (y_pickT rfl rfl) ?_) | (refine Hd.yg rfl rfl (y_pickF rfl rfl) ?_) | (refine Hd.yg rfl rfl (y_pickb rfl rfl rfl) ?_) | (refine Hd.yg rfl rfl (y_pick rfl rfl rfl) ?_)
      refine Hd.nil ?_
      exact Hd.mend (by repeat (first | exact trivial | refine ⟨rfl, ?_⟩)) (Ent.sep enn)
    simp only [List.drop]
    first | (refine Hd.yv (y_pickT rfl rfl) ?_) | (refine Hd.yv (y_pickF rfl rfl) ?_) | (refine Hd.yv (y_pickb rfl rfl rfl) ?_) | (refine Hd.yv (y_pick rfl rfl rfl) ?_)
    refine Hd.nil ?_
    exact Hd.mend (by repeat (first | exact trivial | refine ⟨rfl, ?_⟩)) (Ent.sep enn)
  · intro hg2_13
    try simp only [decide_eq_true_eq, decide_eq_false_iff_not, Bool.and_eq_true, Bool.or_eq_true, Bool.and_eq_false_iff, Bool.or_eq_false_iff, Bool.not_eq_true', Bool.not_eq_false', Bool.not_eq_true, Bool.not_eq_false, Int.not_lt, Int.not_le, Decidable.not_not, ne_eq] at hg2_13
    simp only [List.take]
    refine Hd.ng rfl rfl rfl ?_
    refine Hd.ng rfl rfl rfl ?_
    refine Hd.ng rfl rfl rfl ?_
    refine Hd.ng rfl rfl rfl ?_
    refine Hd.ng rfl rfl rfl ?_
    refine Hd.ng rfl rfl rfl ?_
    first | (refine Hd.yv (y_pickT rfl rfl) ?_) | (refine Hd.yv (y_pickF rfl rfl) ?_) | (refine Hd.yv (y_pickb rfl rfl rfl) ?_) | (refine Hd.yv (y_pick rfl rfl rfl) ?_)
    refine Hd.nil ?_
    exact Hd.mend (by repeat (first | exact trivial | refine ⟨rfl, ?_⟩)) (Ent.sep enn)
  simp only [List.drop]
  refine Hd.yv (y_to (v' := .bool (endE x r)) (y_assign rfl) (by rfl)) ?_
  refine Hd.nil ?_
  refine Hd.slots [(2, _), (3, _), (5, _), (6, _), (7, _)] ⟨rfl, rfl, rfl, rfl, rfl, trivial⟩ ?_
  refine Hd.toK hK3 ?_
  refine Hd.cutK (ι := Unit) [(2, _), (3, _), (6, _), (7, _)] (fun _ => [(5, .int .i64 (nw0 x r))]) (fun _ => pt b2 (encIx x) 93 :: pt b3 (encR r) 97 :: L) ?_ ?_ ⟨rfl, rfl, rfl, rfl, trivial⟩
  ·
    refine Hd.seq (fun K4 hK4 => ?_)
    refine Hd.region ?_
    first | (refine Hd.yv (y_field' (q := 1) (ft := 4) Try.underlying97 rfl sz4 rfl rfl) ?_) | (refine Hd.yv (y_fieldR (q := 1) (ft := 4) Try.underlying97 rfl sz4 rfl rfl) ?_)
    first | (refine Hd.yv (y_load1 ag4 rfl (Rd.pt1 pkk (by (first | rfl)))) ?_) | (refine Hd.yv (y_load1 ag4 rfl (Rd.seg1 pkk (by (first | rfl)))) ?_) | (refine Hd.yv (y_loadR1 ag4 rfl (by (first | exact RdS.own pkk)) (by (first | rfl))) ?_)
    refine Hd.yv (y_move rfl) ?_
    apply Hd.org 2 23 25 [(2, _), (3, _), (5, _), (6, _), (7, _)] rfl ⟨rfl, rfl, rfl, rfl, rfl, trivial⟩
    · intro hg3_23
      try simp only [decide_eq_true_eq, decide_eq_false_iff_not, Bool.and_eq_true, Bool.or_eq_true, Bool.and_eq_false_iff, Bool.or_eq_false_iff, Bool.not_eq_true', Bool.not_eq_false', Bool.not_eq_true, Bool.not_eq_false, Int.not_lt, Int.not_le, Decidable.not_not, ne_eq] at hg3_23
      simp only [List.take]
      refine Hd.ng rfl rfl rfl ?_
      first | (refine Hd.yv (y_pickT rfl rfl) ?_) | (refine Hd.yv (y_pickF rfl rfl) ?_) | (refine Hd.yv (y_pickb rfl rfl rfl) ?_) | (refine Hd.yv (y_pick rfl rfl rfl) ?_)
      refine Hd.nil ?_
      exact Hd.mend (by repeat (first | exact trivial | refine ⟨rfl, ?_⟩)) (Ent.sep enn)
    · intro hg3_23
      try simp only [decide_eq_true_eq, decide_eq_false_iff_not, Bool.and_eq_true, Bool.or_eq_true, Bool.and_eq_false_iff, Bool.or_eq_false_iff, Bool.not_eq_true', Bool.not_eq_false', Bool.not_eq_true, Bool.not_eq_false, Int.not_lt, Int.not_le, Decidable.not_not, ne_eq] at hg3_23
      simp only [List.take]
      refine Hd.yg rfl rfl (y_move rfl) ?_
      first | (refine Hd.yv (y_pickT rfl rfl) ?_) | (refine Hd.yv (y_pickF rfl rfl) ?_) | (refine Hd.yv (y_pickb rfl rfl rfl) ?_) | (refine Hd.yv (y_pick rfl rfl rfl) ?_)
      refine Hd.nil ?_
      exact Hd.mend (by repeat (first | exact trivial | refine ⟨rfl, ?_⟩)) (Ent.sep enn)
    simp only [List.drop]
    refine Hd.nil ?_
    refine Hd.slots [(2, _), (3, _), (5, _), (6, _), (7, _), (25, _)] ⟨rfl, rfl, rfl, rfl, rfl, rfl, trivial⟩ ?_
    refine Hd.toK hK4 ?_
    refine Hd.cond rfl (fun hc0 => ?_) (fun hc0 => ?_)
    ·
      try simp only [decide_eq_true_eq, decide_eq_false_iff_not, Bool.and_eq_true, Bool.or_eq_true, Bool.and_eq_false_iff, Bool.or_eq_false_iff, Bool.not_eq_true', Bool.not_eq_false', Bool.not_eq_true, Bool.not_eq_false, Int.not_lt, Int.not_le, Decidable.not_not, ne_eq] at hc0
      refine Hd.region ?_
      refine Hd.yv (y_move rfl) ?_
      refine Hd.yv (y_or rfl rfl) ?_
      refine Hd.yv (y_assign rfl) ?_
      refine Hd.nil ?_
      refine Hd.slots [(2, _), (3, _), (5, _), (6, _), (7, _)] ⟨rfl, rfl, rfl, rfl, rfl, trivial⟩ ?_
      clear hK1 hK2 hK3 hK4
      refine Hd.thenN ?_
      exact Hd.meet () ⟨congrArg (fun z => some (Value.int .i64 z)) (show bits .or .i64 0 1 = nw0 x r from (if_pos (by simpa using hc0)).symm), by repeat (first | exact trivial | refine ⟨rfl, ?_⟩)⟩ (Ent.sep enn)
    ·
      try simp only [decide_eq_true_eq, decide_eq_false_iff_not, Bool.and_eq_true, Bool.or_eq_true, Bool.and_eq_false_iff, Bool.or_eq_false_iff, Bool.not_eq_true', Bool.not_eq_false', Bool.not_eq_true, Bool.not_eq_false, Int.not_lt, Int.not_le, Decidable.not_not, ne_eq] at hc0
      refine Hd.skip ?_
      clear hK1 hK2 hK3 hK4
      refine Hd.thenN ?_
      exact Hd.meet () ⟨congrArg (fun z => some (Value.int .i64 z)) (show 0 = nw0 x r from (if_neg (by rw [hc0.1, hc0.2]; decide)).symm), by repeat (first | exact trivial | refine ⟨rfl, ?_⟩)⟩ (Ent.sep enn)
  ·
    intro _
    refine Hd.cutK (ι := Unit) [(2, _), (3, _), (6, _)] (fun _ => [(5, .int .i64 (nw1 x r))]) (fun _ => pt b2 (encIx x) 93 :: pt b3 (encR r) 97 :: L) ?_ ?_ ⟨rfl, rfl, rfl, trivial⟩
    ·
      refine Hd.seq (fun K5 hK5 => ?_)
      refine Hd.region ?_
      first | (refine Hd.yv (y_field' (q := 2) (ft := 4) Try.underlying97 rfl sz4 rfl rfl) ?_) | (refine Hd.yv (y_fieldR (q := 2) (ft := 4) Try.underlying97 rfl sz4 rfl rfl) ?_)
      first | (refine Hd.yv (y_load1 ag4 rfl (Rd.pt1 pkk (by (first | rfl)))) ?_) | (refine Hd.yv (y_load1 ag4 rfl (Rd.seg1 pkk (by (first | rfl)))) ?_) | (refine Hd.yv (y_loadR1 ag4 rfl (by (first | exact RdS.own pkk)) (by (first | rfl))) ?_)
      refine Hd.yv (y_move rfl) ?_
      apply Hd.org 2 30 32 [(2, _), (3, _), (5, _), (6, _)] rfl ⟨rfl, rfl, rfl, rfl, trivial⟩
      · intro hg5_30
        try simp only [decide_eq_true_eq, decide_eq_false_iff_not, Bool.and_eq_true, Bool.or_eq_true, Bool.and_eq_false_iff, Bool.or_eq_false_iff, Bool.not_eq_true', Bool.not_eq_false', Bool.not_eq_true, Bool.not_eq_false, Int.not_lt, Int.not_le, Decidable.not_not, ne_eq] at hg5_30
        simp only [List.take]
        refine Hd.ng rfl rfl rfl ?_
        first | (refine Hd.yv (y_pickT rfl rfl) ?_) | (refine Hd.yv (y_pickF rfl rfl) ?_) | (refine Hd.yv (y_pickb rfl rfl rfl) ?_) | (refine Hd.yv (y_pick rfl rfl rfl) ?_)
        refine Hd.nil ?_
        exact Hd.mend (by repeat (first | exact trivial | refine ⟨rfl, ?_⟩)) (Ent.sep enn)
      · intro hg5_30
        try simp only [decide_eq_true_eq, decide_eq_false_iff_not, Bool.and_eq_true, Bool.or_eq_true, Bool.and_eq_false_iff, Bool.or_eq_false_iff, Bool.not_eq_true', Bool.not_eq_false', Bool.not_eq_true, Bool.not_eq_false, Int.not_lt, Int.not_le, Decidable.not_not, ne_eq] at hg5_30
        simp only [List.take]
        refine Hd.yg rfl rfl (y_move rfl) ?_
        first | (refine Hd.yv (y_pickT rfl rfl) ?_) | (refine Hd.yv (y_pickF rfl rfl) ?_) | (refine Hd.yv (y_pickb rfl rfl rfl) ?_) | (refine Hd.yv (y_pick rfl rfl rfl) ?_)
        refine Hd.nil ?_
        exact Hd.mend (by repeat (first | exact trivial | refine ⟨rfl, ?_⟩)) (Ent.sep enn)
      simp only [List.drop]
      refine Hd.nil ?_
      refine Hd.slots [(2, _), (3, _), (5, _), (6, _), (32, _)] ⟨rfl, rfl, rfl, rfl, rfl, trivial⟩ ?_
      refine Hd.toK hK5 ?_
      refine Hd.cond rfl (fun hc1 => ?_) (fun hc1 => ?_)
      ·
        try simp only [decide_eq_true_eq, decide_eq_false_iff_not, Bool.and_eq_true, Bool.or_eq_true, Bool.and_eq_false_iff, Bool.or_eq_false_iff, Bool.not_eq_true', Bool.not_eq_false', Bool.not_eq_true, Bool.not_eq_false, Int.not_lt, Int.not_le, Decidable.not_not, ne_eq] at hc1
        refine Hd.region ?_
        refine Hd.yv (y_move rfl) ?_
        refine Hd.yv (y_or rfl rfl) ?_
        refine Hd.yv (y_assign rfl) ?_
        refine Hd.nil ?_
        refine Hd.slots [(2, _), (3, _), (5, _), (6, _)] ⟨rfl, rfl, rfl, rfl, trivial⟩ ?_
        clear hK1 hK2 hK3 hK5
        refine Hd.thenN ?_
        exact Hd.meet () ⟨congrArg (fun z => some (Value.int .i64 z)) (show bits .or .i64 (nw0 x r) 4 = nw1 x r from (if_pos (by simpa using hc1)).symm), by repeat (first | exact trivial | refine ⟨rfl, ?_⟩)⟩ (Ent.sep enn)
      ·
        try simp only [decide_eq_true_eq, decide_eq_false_iff_not, Bool.and_eq_true, Bool.or_eq_true, Bool.and_eq_false_iff, Bool.or_eq_false_iff, Bool.not_eq_true', Bool.not_eq_false', Bool.not_eq_true, Bool.not_eq_false, Int.not_lt, Int.not_le, Decidable.not_not, ne_eq] at hc1
        refine Hd.skip ?_
        clear hK1 hK2 hK3 hK5
        refine Hd.thenN ?_
        exact Hd.meet () ⟨congrArg (fun z => some (Value.int .i64 z)) (show nw0 x r = nw1 x r from (if_neg (by rw [hc1.1, hc1.2]; decide)).symm), by repeat (first | exact trivial | refine ⟨rfl, ?_⟩)⟩ (Ent.sep enn)
    ·
      intro _
      refine Hd.seq (fun K6 hK6 => ?_)
      refine Hd.region ?_
      refine Hd.yv (y_move rfl) ?_
      first | (refine Hd.yv (y_field' (q := 1) (ft := 3) Try.underlying93 rfl sz3 rfl rfl) ?_) | (refine Hd.yv (y_fieldR (q := 1) (ft := 3) Try.underlying93 rfl sz3 rfl rfl) ?_)
      first | (refine Hd.yv (y_load1 ag3 rfl (Rd.pt1 pkk (by (first | rfl)))) ?_) | (refine Hd.yv (y_load1 ag3 rfl (Rd.seg1 pkk (by (first | rfl)))) ?_) | (refine Hd.yv (y_loadR1 ag3 rfl (by (first | exact RdS.own pkk)) (by (first | rfl))) ?_)
      refine Hd.yv (y_to (v' := .int .i64 (nw2 x r)) (y_and rfl rfl) (by rfl)) ?_
      refine Hd.yv (y_assign rfl) ?_
      refine Hd.nil ?_
      refine Hd.slots [(2, _), (3, _), (5, _), (6, _)] ⟨rfl, rfl, rfl, rfl, trivial⟩ ?_
      refine Hd.toK hK6 ?_
      refine Hd.cutK (ι := Unit) [(3, _)] (fun _ => [(5, .int .i64 (nw3 x r))]) (fun _ => pu (¬ (edgE x = true ∧ nw3 x r = 0)) :: pt b2 (encIx x) 93 :: pt b3 (encR r) 97 :: L) ?_ ?_ ⟨rfl, trivial⟩
      ·
        refine Hd.seq (fun K7 hK7 => ?_)
        refine Hd.region ?_
        refine Hd.yv (y_move rfl) ?_
        refine Hd.nil ?_
        refine Hd.slots [(2, _), (3, _), (5, _), (39, _)] ⟨rfl, rfl, rfl, rfl, trivial⟩ ?_
        refine Hd.toK hK7 ?_
        refine Hd.cond rfl (fun hc2 => ?_) (fun hc2 => ?_)
        ·
          try simp only [decide_eq_true_eq, decide_eq_false_iff_not, Bool.and_eq_true, Bool.or_eq_true, Bool.and_eq_false_iff, Bool.or_eq_false_iff, Bool.not_eq_true', Bool.not_eq_false', Bool.not_eq_true, Bool.not_eq_false, Int.not_lt, Int.not_le, Decidable.not_not, ne_eq] at hc2
          have h3 : nw3 x r = bits .and .i64 (nw2 x r) (rsE x r) := if_pos hc2
          refine Hd.seq (fun K8 hK8 => ?_)
          refine Hd.region ?_
          refine Hd.yv (y_move rfl) ?_
          first | (refine Hd.yv (y_loadn (us := [_, _, _, _, _]) ag93 rfl (Rd.pt pkk (by (first | (intro j v e; rcases j with _|_|_|_|_|_|_|_|_|_|_|_|j <;> first | exact e | exact absurd e (by simp))))) (by exact sz93)) ?_) | (refine Hd.yv (y_loadn (us := [_, _, _, _, _]) ag93 rfl (Rd.seg pkk (by (first | (intro j v e; rcases j with _|_|_|_|_|_|_|_|_|_|_|_|j <;> first | exact e | exact absurd e (by simp))))) (by exact sz93)) ?_) | (refine Hd.yv (y_loadRn ag93 rfl (by (first | exact RdS.own pkk)) (by (first | (intro j v e; rcases j with _|_|_|_|_|_|_|_|_|_|_|_|j <;> first | exact e | exact absurd e (by simp)))) (by exact sz93) (by simp)) ?_)
          first | (refine Hd.yv (y_loadn (us := [_, _, _, _, _, _, _]) ag97 rfl (Rd.pt pkk (by (first | (intro j v e; rcases j with _|_|_|_|_|_|_|_|_|_|_|_|j <;> first | exact e | exact absurd e (by simp))))) (by exact sz97)) ?_) | (refine Hd.yv (y_loadn (us := [_, _, _, _, _, _, _]) ag97 rfl (Rd.seg pkk (by (first | (intro j v e; rcases j with _|_|_|_|_|_|_|_|_|_|_|_|j <;> first | exact e | exact absurd e (by simp))))) (by exact sz97)) ?_) | (refine Hd.yv (y_loadRn ag97 rfl (by (first | exact RdS.own pkk)) (by (first | (intro j v e; rcases j with _|_|_|_|_|_|_|_|_|_|_|_|j <;> first | exact e | exact absurd e (by simp)))) (by exact sz97) (by simp)) ?_)
          refine Hd.callE rfl fk41 (risen_ct _ x r) (Ent.sep enn) ?_
          intro _
          refine Hd.yv (y_and rfl rfl) ?_
          refine Hd.yv (y_assign rfl) ?_
          refine Hd.nil ?_
          refine Hd.slots [(3, _), (5, _)] ⟨rfl, rfl, trivial⟩ ?_
          refine Hd.toK hK8 ?_
          refine Hd.seq (fun K9 hK9 => ?_)
          refine Hd.region ?_
          refine Hd.yv (y_move rfl) ?_
          first | (refine Hd.yv (y_eqlT rfl rfl) ?_) | (refine Hd.yv (y_eql rfl rfl) ?_)
          refine Hd.nil ?_
          refine Hd.slots [(3, _), (5, _), (46, _)] ⟨rfl, rfl, rfl, trivial⟩ ?_
          refine Hd.toK hK9 ?_
          refine Hd.cond rfl (fun hc3 => ?_) (fun hc3 => ?_)
          ·
            try simp only [decide_eq_true_eq, decide_eq_false_iff_not, Bool.and_eq_true, Bool.or_eq_true, Bool.and_eq_false_iff, Bool.or_eq_false_iff, Bool.not_eq_true', Bool.not_eq_false', Bool.not_eq_true, Bool.not_eq_false, Int.not_lt, Int.not_le, Decidable.not_not, ne_eq] at hc3
            refine Hd.seq (fun K10 hK10 => ?_)
            refine Hd.region ?_
            refine Hd.yv (y_assign rfl) ?_
            refine Hd.nil ?_
            refine Hd.slots [(4, _)] ⟨rfl, trivial⟩ ?_
            refine Hd.toK hK10 ?_
            refine Hd.ret ?_
            refine Hd.thenRet ?_
            clear hK1 hK2 hK3 hK6 hK7 hK8 hK9 hK10
            rw [show nwE x r = 0 from if_pos ⟨hc2, by rw [h3]; exact hc3⟩]
            exact Hd.ret1 rfl () rfl (Ent.sep enn)
          ·
            try simp only [decide_eq_true_eq, decide_eq_false_iff_not, Bool.and_eq_true, Bool.or_eq_true, Bool.and_eq_false_iff, Bool.or_eq_false_iff, Bool.not_eq_true', Bool.not_eq_false', Bool.not_eq_true, Bool.not_eq_false, Int.not_lt, Int.not_le, Decidable.not_not, ne_eq] at hc3
            refine Hd.skip ?_
            clear hK1 hK2 hK3 hK6 hK7 hK8 hK9
            refine Hd.thenN ?_
            exact Hd.meet () ⟨congrArg (fun z => some (Value.int .i64 z)) h3.symm, by repeat (first | exact trivial | refine ⟨rfl, ?_⟩)⟩ (Ent.sep (.pure (fun h => hc3 (by rw [← h3]; exact h.2)) enn))
        ·
          try simp only [decide_eq_true_eq, decide_eq_false_iff_not, Bool.and_eq_true, Bool.or_eq_true, Bool.and_eq_false_iff, Bool.or_eq_false_iff, Bool.not_eq_true', Bool.not_eq_false', Bool.not_eq_true, Bool.not_eq_false, Int.not_lt, Int.not_le, Decidable.not_not, ne_eq] at hc2
          refine Hd.skip ?_
          clear hK1 hK2 hK3 hK6 hK7
          refine Hd.thenN ?_
          exact Hd.meet () ⟨congrArg (fun z => some (Value.int .i64 z)) (show nw2 x r = nw3 x r from (if_neg (by rw [hc2]; decide)).symm), by repeat (first | exact trivial | refine ⟨rfl, ?_⟩)⟩ (Ent.sep (.pure (fun h => by rw [hc2] at h; exact absurd h.1 (by decide)) enn))
      ·
        intro _
        refine Hd.pure (fun hne => ?_)
        refine Hd.cutK (ι := Unit) [(3, _)] (fun _ => [(5, .int .i64 (nw4 x r))]) (fun _ => pt b2 (encIx x) 93 :: pt b3 (encR r) 97 :: L) ?_ ?_ ⟨rfl, trivial⟩
        ·
          refine Hd.seq (fun K11 hK11 => ?_)
          refine Hd.region ?_
          first | (refine Hd.yv (y_field' (q := 3) (ft := 4) Try.underlying97 rfl sz4 rfl rfl) ?_) | (refine Hd.yv (y_fieldR (q := 3) (ft := 4) Try.underlying97 rfl sz4 rfl rfl) ?_)
          first | (refine Hd.yv (y_load1 ag4 rfl (Rd.pt1 pkk (by (first | rfl)))) ?_) | (refine Hd.yv (y_load1 ag4 rfl (Rd.seg1 pkk (by (first | rfl)))) ?_) | (refine Hd.yv (y_loadR1 ag4 rfl (by (first | exact RdS.own pkk)) (by (first | rfl))) ?_)
          refine Hd.nil ?_
          refine Hd.slots [(3, _), (5, _), (48, _)] ⟨rfl, rfl, rfl, trivial⟩ ?_
          refine Hd.toK hK11 ?_
          refine Hd.cond rfl (fun hc4 => ?_) (fun hc4 => ?_)
          ·
            try simp only [decide_eq_true_eq, decide_eq_false_iff_not, Bool.and_eq_true, Bool.or_eq_true, Bool.and_eq_false_iff, Bool.or_eq_false_iff, Bool.not_eq_true', Bool.not_eq_false', Bool.not_eq_true, Bool.not_eq_false, Int.not_lt, Int.not_le, Decidable.not_not, ne_eq] at hc4
            refine Hd.region ?_
            refine Hd.yv (y_move rfl) ?_
            refine Hd.yv (y_or rfl rfl) ?_
            refine Hd.yv (y_assign rfl) ?_
            refine Hd.nil ?_
            refine Hd.slots [(3, _), (5, _)] ⟨rfl, rfl, trivial⟩ ?_
            clear hK1 hK2 hK3 hK6 hK11
            refine Hd.thenN ?_
            exact Hd.meet () ⟨congrArg (fun z => some (Value.int .i64 z)) (show bits .or .i64 (nw3 x r) 16 = nw4 x r from (if_pos hc4).symm), by repeat (first | exact trivial | refine ⟨rfl, ?_⟩)⟩ (Ent.sep enn)
          ·
            try simp only [decide_eq_true_eq, decide_eq_false_iff_not, Bool.and_eq_true, Bool.or_eq_true, Bool.and_eq_false_iff, Bool.or_eq_false_iff, Bool.not_eq_true', Bool.not_eq_false', Bool.not_eq_true, Bool.not_eq_false, Int.not_lt, Int.not_le, Decidable.not_not, ne_eq] at hc4
            refine Hd.skip ?_
            clear hK1 hK2 hK3 hK6 hK11
            refine Hd.thenN ?_
            exact Hd.meet () ⟨congrArg (fun z => some (Value.int .i64 z)) (show nw3 x r = nw4 x r from (if_neg (by rw [hc4]; decide)).symm), by repeat (first | exact trivial | refine ⟨rfl, ?_⟩)⟩ (Ent.sep enn)
        ·
          intro _
          refine Hd.seq (fun K12 hK12 => ?_)
          refine Hd.seq (fun K13 hK13 => ?_)
          refine Hd.region ?_
          first | (refine Hd.yv (y_field' (q := 4) (ft := 4) Try.underlying97 rfl sz4 rfl rfl) ?_) | (refine Hd.yv (y_fieldR (q := 4) (ft := 4) Try.underlying97 rfl sz4 rfl rfl) ?_)
          first | (refine Hd.yv (y_load1 ag4 rfl (Rd.pt1 pkk (by (first | rfl)))) ?_) | (refine Hd.yv (y_load1 ag4 rfl (Rd.seg1 pkk (by (first | rfl)))) ?_) | (refine Hd.yv (y_loadR1 ag4 rfl (by (first | exact RdS.own pkk)) (by (first | rfl))) ?_)
          refine Hd.nil ?_
          refine Hd.slots [(5, _), (52, _)] ⟨rfl, rfl, trivial⟩ ?_
          refine Hd.toK hK13 ?_
          refine Hd.cond rfl (fun hc5 => ?_) (fun hc5 => ?_)
          ·
            try simp only [decide_eq_true_eq, decide_eq_false_iff_not, Bool.and_eq_true, Bool.or_eq_true, Bool.and_eq_false_iff, Bool.or_eq_false_iff, Bool.not_eq_true', Bool.not_eq_false', Bool.not_eq_true, Bool.not_eq_false, Int.not_lt, Int.not_le, Decidable.not_not, ne_eq] at hc5
            refine Hd.region ?_
            refine Hd.yv (y_move rfl) ?_
            refine Hd.yv (y_or rfl rfl) ?_
            refine Hd.yv (y_assign rfl) ?_
            refine Hd.nil ?_
            refine Hd.slots [(5, _)] ⟨rfl, trivial⟩ ?_
            refine Hd.toK hK12 ?_
            refine Hd.seq (fun K14 hK14 => ?_)
            refine Hd.region ?_
            refine Hd.yv (y_move rfl) ?_
            refine Hd.yv (y_assign rfl) ?_
            refine Hd.nil ?_
            refine Hd.slots [(4, _)] ⟨rfl, trivial⟩ ?_
            refine Hd.toK hK14 ?_
            refine Hd.ret ?_
            clear hK1 hK2 hK3 hK6 hK12 hK13 hK14
            rw [show nwE x r = bits .or .i64 (nw4 x r) 8 by unfold nwE; rw [if_neg hne]; exact if_pos hc5]
            exact Hd.ret1 rfl () rfl (Ent.sep enn)
          ·
            try simp only [decide_eq_true_eq, decide_eq_false_iff_not, Bool.and_eq_true, Bool.or_eq_true, Bool.and_eq_false_iff, Bool.or_eq_false_iff, Bool.not_eq_true', Bool.not_eq_false', Bool.not_eq_true, Bool.not_eq_false, Int.not_lt, Int.not_le, Decidable.not_not, ne_eq] at hc5
            refine Hd.skip ?_
            refine Hd.toK hK12 ?_
            refine Hd.seq (fun K15 hK15 => ?_)
            refine Hd.region ?_
            refine Hd.yv (y_move rfl) ?_
            refine Hd.yv (y_assign rfl) ?_
            refine Hd.nil ?_
            refine Hd.slots [(4, _)] ⟨rfl, trivial⟩ ?_
            refine Hd.toK hK15 ?_
            refine Hd.ret ?_
            clear hK1 hK2 hK3 hK6 hK12 hK13 hK15
            rw [show nwE x r = nw4 x r by unfold nwE; rw [if_neg hne]; exact if_neg (by rw [hc5]; decide)]
            exact Hd.ret1 rfl () rfl (Ent.sep enn)
end Ep
end Go.Proofs.Ytbfddabjbkohdaa
namespace Go.RX
set_option linter.unusedSimpArgs false
set_option linter.unusedVariables false
set_option linter.unnecessarySimpa false
structure Bag {α : Type} (f : α → SP) (rs : List α) (h : PH) : Prop where
  all : sep (rs.map f) h
section
variable {α : Type} {f : α → SP}
theorem bag_split {a b : List α} {L : List SP} {h : PH} (s : sep (Bag f (a ++ b) :: L) h) : sep (Bag f a :: Bag f b :: L) h := by
  obtain ⟨h1, h2, d, s1, s2, ⟨x⟩, y⟩ := s
  rw [List.map_append] at x
  obtain ⟨k1, k2, d', a', b', x1, x2⟩ := sep_append x
  exact ⟨k1, uni k2 h2, (Dis.uniL d'.sym (d.subL a').sym).sym, a'.tr s1, Sub.uni (b'.tr s1) s2, ⟨x1⟩, k2, h2, d.subL b', Sub.uniL, Sub.uniR (d.subL b'), ⟨x2⟩, y⟩
theorem bag_join {a b : List α} {L : List SP} {h : PH} (s : sep (Bag f a :: Bag f b :: L) h) : sep (Bag f (a ++ b) :: L) h := by
  obtain ⟨h1, h2, d, s1, s2, ⟨x⟩, k1, k2, d', a', b', ⟨x'⟩, y⟩ := s
  refine ⟨uni h1 k1, k2, Dis.uniL (d.subR b') d', Sub.uni s1 (a'.tr s2), b'.tr s2, ⟨?_⟩, y⟩
  rw [List.map_append]
  exact sep_join (d.subR a') Sub.uniL (Sub.uniR (d.subR a')) x x'
theorem bag_one {x : α} {L : List SP} {h : PH} (s : sep (Bag f [x] :: L) h) : sep (f x :: L) h := by
  obtain ⟨h1, h2, d, s1, s2, ⟨k1, k2, d', a', b', x, _⟩, y⟩ := s
  exact ⟨k1, h2, d.subL a', a'.tr s1, s2, x, y⟩
theorem one_bag {x : α} {L : List SP} {h : PH} (s : sep (f x :: L) h) : sep (Bag f [x] :: L) h := by
  obtain ⟨h1, h2, d, s1, s2, x, y⟩ := s
  exact ⟨h1, h2, d, s1, s2, ⟨h1, fun _ => none, fun _ => .inr rfl, Sub.rfl', (fun _ _ e => by cases e), x, trivial⟩, y⟩
theorem bag_tda {rs : List α} {j : Nat} {r : α} (hj : rs[j]? = some r) : rs = rs.take j ++ ([r] ++ rs.drop (j + 1)) := by
  obtain ⟨h, e⟩ := List.getElem?_eq_some_iff.1 hj
  rw [← e]
  show rs = rs.take j ++ rs[j] :: rs.drop (j + 1)
  rw [← List.drop_eq_getElem_cons h, List.take_append_drop]
theorem bag_out {rs : List α} {j : Nat} {x : α} {L : List SP} {h : PH} (hj : rs[j]? = some x) (s : sep (Bag f rs :: L) h) : sep (f x :: Bag f (rs.take j) :: Bag f (rs.drop (j + 1)) :: L) h := by
  rw [bag_tda hj] at s
  exact Pick.sep (.there .here) (by
    have h1 := bag_split s
    have h2 : sep (Bag f ([x] ++ rs.drop (j + 1)) :: Bag f (rs.take j) :: L) h := Pick.sep (.there .here) h1
    have h3 := bag_one (bag_split h2)
    exact Ent.sep (show Ent _ (Bag f (rs.take j) :: f x :: Bag f (rs.drop (j + 1)) :: L) from enn) h h3)
theorem bag_in {rs : List α} {j : Nat} {x : α} {L : List SP} {h : PH} (hj : j < rs.length) (s : sep (f x :: Bag f (rs.take j) :: Bag f (rs.drop (j + 1)) :: L) h) : sep (Bag f (rs.set j x) :: L) h := by
  have e : rs.set j x = rs.take j ++ ([x] ++ rs.drop (j + 1)) := by
    rw [List.set_eq_take_append_cons_drop, if_pos hj]; rfl
  rw [e]
  have h1 := one_bag s
  have h2 : sep (Bag f [x] :: Bag f (rs.drop (j + 1)) :: Bag f (rs.take j) :: L) h := Ent.sep enn h h1
  exact bag_join (Ent.sep enn h (bag_join h2))
end
section
variable {E : World} {n : Nat} {ds : List Deferred} {st : List (Nat × Value)} {L : List SP} {P : Program} {d : Nat} {ty t : TypeId} {pos : String} {af : Array Edge} {g : Option (Nat × Bool)} {x y : Operand} {k : IntKind}
theorem y_idxAR {o m len j : Nat} {e : TypeId} {ad : Option Addr} (hu : P.underlying t = some (.array len e)) (hs : szk P e = some m) (hx : evo st x = some (.pointer (some ((adr ad).add o))))
    (hy : evo st y = some (.int k (Int.ofNat j))) (hj : j < len) : Yv E n ds st L P ⟨some d, .indexAddr t x y, ty, pos, af, g⟩ (.pointer (some ((adr ad).add (o + j * m)))) := fun a w f s => by
  simp only [execOp, f.ev hx, f.ev hy]
  simp only [Instr.indexAt, asIntOf, Sem.run_bind, run_underlying hu, Result.andThen, Instr.sureAddr, go_sem]
  simp [run_sizeOf' hs, hj, Addr.add_add]
end
section
variable {P : Program} {E : World} {n : Nat} {ds : List Deferred} {st : List (Nat × Value)} {L L' : List SP} {v : Value}
theorem results_cell1 {fn : Func} {ta : Nat} {t : TypeId} {b o : Nat} {tmps : Array Value} {w : World} (hr : fn.results = #[.cell ta t]) (ha : agk P t = some false) (hx : tmps.getD ta undef = .pointer (some ⟨b, o, none⟩))
    (hR : Rd L b o [v]) (s : Sat E L w) : (results fn tmps).run P w = .ok v w := by
  have hc := hR.cell s (j := 0) rfl
  simp only [Nat.add_zero] at hc
  have hv : (loadVar t ⟨b, o, none⟩).run P w = .ok v w := by
    simp [loadVar, run_isAgg ha, hc, go_sem]
  have hx2 : tmps[ta]?.getD undef = .pointer (some ⟨b, o, none⟩) := by simpa using hx
  simp [results, hr, hx2, asAddr, hv]
theorem Lv.endC1 {fn : Func} {a : Act} {ta : Nat} {t : TypeId} {b o : Nat} {ι : Type} {val : ι → Value} {post : ι → List SP} (f : Fr n ds st a) (hr : fn.results = #[.cell ta t]) (i : ι) (ha : agk P t = some false) (hx : look st ta = some (.pointer (some ⟨b, o, none⟩)))
    (hR : Rd L b o [v]) (hv : val i = v) (hl : ∀ k, sep L k → sep (post i) k) : Lv E P fn a.tmps [] L val post := fun w s =>
  ⟨val i, by rw [results_cell1 hr ha (by simp [f.at_ ta _ hx]) hR s, hv], i, rfl, s.mp hl⟩
end
section
variable {P : Program} {E : World} {n : Nat} {ds : List Deferred} {st : List (Nat × Value)} {L L' : List SP} {v v2 v3 : Value}
end
section
variable {E : World} {n : Nat} {ds : List Deferred} {st st' : List (Nat × Value)} {L L' : List SP} {r : Option Nat} {P : Program} {Q : Exit → Act → World → Prop} {ops : Array Oper} {rest : List Oper}
variable {d : Nat} {ty t t2 : TypeId} {pos : String} {af : Array Edge} {g : Option (Nat × Bool)} {x y z : Operand} {v u : Value} {k : IntKind} {p q : Bool}
end
theorem Ct.to {P : Program} {f : FuncId} {vs : Array Value} {L L' : List SP} {ι ι' : Type} {val : ι → Value} {val' : ι' → Value} {post : ι → List SP} {post' : ι' → List SP} (h : Ct P f vs L val post) (hL : ∀ k, sep L' k → sep L k)
    (hp : ∀ i, ∃ j, val i = val' j ∧ ∀ k, sep (post i) k → sep (post' j) k) : Ct P f vs L' val' post' := fun E w s =>
  Calls.mono (h E w (s.mp hL)) (fun e w' ⟨i, he, hs⟩ => by obtain ⟨j, hv, hj⟩ := hp i; exact ⟨j, by rw [he, hv], hs.mp hj⟩)
theorem Ct.swap {P : Program} {f : FuncId} {vs : Array Value} {L L2 M2 : List SP} {v : Value} (h : Ct P f vs L2 (fun _ : Unit => v) (fun _ => M2)) (a : ∀ k, sep L k → sep L2 k) (b : ∀ k, sep M2 k → sep L k) : Ct P f vs L (fun _ : Unit => v) (fun _ => L) :=
  h.to a fun _ => ⟨(), rfl, b⟩
section
variable {α : Type} {enc : α → List Value} {k : Nat}
theorem rows_len (hk : ∀ x, (enc x).length = k) : ∀ (rs : List α), (rs.flatMap enc).length = rs.length * k
  | [] => by simp
  | x :: t => by rw [List.flatMap_cons, List.length_append, hk, rows_len hk t, List.length_cons, Nat.succ_mul, Nat.add_comm]
theorem rows_set2 (hk : ∀ x, (enc x).length = k) {x x' : α} {us : List Value} {j m o o2 : Nat} (hm : us.length = m) (hj : j + m ≤ k) (he : (enc x).take j ++ us ++ (enc x).drop (j + m) = enc x') : ∀ {rs : List α} {n : Nat}, rs[n]? = some x → o = n * k + j → o2 = o + m → (rs.flatMap enc).take o ++ us ++ (rs.flatMap enc).drop o2 = (rs.set n x').flatMap enc
  | [], n, h, _, _ => by simp at h
  | y :: t, 0, h, ho, ho2 => by
    obtain rfl : y = x := by simpa using h
    subst ho2
    rw [ho, Nat.zero_mul, Nat.zero_add]
    show (enc y ++ t.flatMap enc).take j ++ us ++ (enc y ++ t.flatMap enc).drop (j + m) = enc x' ++ t.flatMap enc
    have hl := hk y
    rw [List.take_append_of_le_length (by omega), List.drop_append_of_le_length (by omega), ← he]
    simp only [List.append_assoc]
  | y :: t, n + 1, h, ho, ho2 => by
    have ih := rows_set2 hk hm hj he (rs := t) (n := n) (o := n * k + j) (o2 := n * k + j + m) (by simpa using h) rfl rfl
    have hl := hk y
    subst ho2
    show (enc y ++ t.flatMap enc).take o ++ us ++ (enc y ++ t.flatMap enc).drop (o + m) = enc y ++ (t.set n x').flatMap enc
    have e1 : o = k + (n * k + j) := by rw [ho, Nat.succ_mul]; omega
    rw [← ih, e1, List.take_append, List.drop_append, hl, List.take_of_length_le (by omega), List.drop_of_length_le (l := enc y) (by omega)]
    rw [show k + (n * k + j) - k = n * k + j by omega, show k + (n * k + j) + m - k = n * k + j + m by omega]
    simp only [List.append_assoc, List.nil_append]
end
end Go.RX
namespace Go.Proofs.Ytbfddabjbkohdaa
set_option linter.unusedSimpArgs false
set_option linter.unusedVariables false
set_option linter.unnecessarySimpa false
open Go.RX Fx
namespace Wo
theorem Hd.wok {E : World} {n : Nat} {ds : List Deferred} {st : List (Nat × Value)} {L L' : List SP} {K : Act → World → Prop} {wb : Nat} {w : WA} (p : Pick L (WorldP wb w) L') (h : WOk w → Hd E n ds st L K) : Hd E n ds st L K := fun a v f s => by
  refine h ?_ a v f s
  obtain ⟨h1, s1, i, x⟩ := sep.one p s.2.2.2
  obtain ⟨_, _, _, _, _, hq, _⟩ := x
  exact hq.1
end Wo
namespace Ep
open Wo
set_option maxRecDepth 8000
theorem sorted_ext : ∀ {a b : List Int}, a.Pairwise (· < ·) → b.Pairwise (· < ·) → (∀ x, x ∈ a ↔ x ∈ b) → a = b
  | [], [], _, _, _ => rfl
  | [], y :: b, _, _, h => absurd ((h y).2 List.mem_cons_self) (by simp)
  | x :: a, [], _, _, h => absurd ((h x).1 List.mem_cons_self) (by simp)
  | x :: a, y :: b, ha, hb, h => by
    rw [List.pairwise_cons] at ha hb
    have hxy : x = y := by
      rcases List.mem_cons.1 ((h x).1 List.mem_cons_self) with e | e
      · exact e
      · rcases List.mem_cons.1 ((h y).2 List.mem_cons_self) with e2 | e2
        · exact e2.symm
        · have h1 := hb.1 x e
          have h2 := ha.1 y e2
          omega
    subst hxy
    congr 1
    refine sorted_ext ha.2 hb.2 fun z => ?_
    have := h z
    simp only [List.mem_cons] at this
    constructor
    · intro hz
      rcases this.1 (.inr hz) with rfl | e
      · have := ha.1 z hz; omega
      · exact e
    · intro hz
      rcases this.2 (.inr hz) with rfl | e
      · have := hb.1 z hz; omega
      · exact e
def allL (f : Int → Option IxA) (w : WA) : List Int := ((List.range 96).filter fun n : Nat => qE f w (n : Int)).map fun n : Nat => (n : Int)
theorem findE_at {f : Int → Option IxA} {w : WA} {a : Int} (h : qE f w a = true) : ∃ x n k, f a = some x ∧ w.at a = some (n, k) ∧ x.wire = (n : Int) ∧ findE f w a = some x := by
  unfold qE at h
  have h1 := h
  unfold findE at h1
  cases hf : f a with
  | none => rw [hf] at h1; simp at h1
  | some x =>
    rw [hf] at h1
    dsimp only at h1
    split at h1
    · rename_i hc
      cases ha : w.at a with
      | none => rw [ha] at hc; simp at hc
      | some p =>
        obtain ⟨n, k⟩ := p
        rw [ha] at hc
        refine ⟨x, n, k, rfl, rfl, hc.2.symm, ?_⟩
        unfold findE
        rw [hf]
        exact if_pos (by rw [ha]; exact hc)
    · simp at h1
theorem mem_allL {f : Int → Option IxA} {w : WA} (hw : WOk w) {a : Int} : a ∈ allL f w ↔ qE f w a = true := by
  unfold allL
  rw [List.mem_map]
  constructor
  · rintro ⟨n, hn, rfl⟩
    exact (List.mem_filter.1 hn).2
  · intro h
    obtain ⟨x, n, k, _, ha, _, _⟩ := findE_at h
    have := hw.at_lt ha
    have e : ((a.toNat : Nat) : Int) = a := by omega
    exact ⟨a.toNat, List.mem_filter.2 ⟨List.mem_range.2 (by omega), by rw [e]; exact h⟩, e⟩
theorem allL_srt (f : Int → Option IxA) (w : WA) : (allL f w).Pairwise (· < ·) := by
  unfold allL
  rw [List.pairwise_map]
  exact (List.pairwise_lt_range.filter _).imp fun {a b} h => by omega
theorem AllE.eq {f : Int → Option IxA} {m : Nat} {w : WA} {ks : List Int} (hw : WOk w) (h : AllE f m w ks) : ks = allL f w :=
  sorted_ext h.srt (allL_srt f w) fun a => by rw [h.mem, mem_allL hw]
theorem allL_len (f : Int → Option IxA) (w : WA) : (allL f w).length ≤ 96 := by
  unfold allL
  rw [List.length_map]
  have := List.length_filter_le (fun n : Nat => qE f w (n : Int)) (List.range 96)
  rwa [List.length_range] at this
def nwF (f : Int → Option IxA) (w : WA) (fd : Int) : Int := nwE ((f fd).getD zIx) (readyR w fd)
def dueT (f : Int → Option IxA) (w : WA) (l : List Int) : List (Int × Int) := l.filterMap fun fd => if nwF f w fd = 0 then none else some (fd, nwF f w fd)
abbrev dueL (f : Int → Option IxA) (w : WA) : List (Int × Int) := dueT f w (allL f w)
theorem dueT_app (f : Int → Option IxA) (w : WA) (a b : List Int) : dueT f w (a ++ b) = dueT f w a ++ dueT f w b := List.filterMap_append
theorem dueT_one (f : Int → Option IxA) (w : WA) (a : Int) : dueT f w [a] = if nwF f w a = 0 then [] else [(a, nwF f w a)] := by
  unfold dueT
  rw [List.filterMap_cons]
  by_cases h : nwF f w a = 0
  · rw [if_pos h, if_pos h]; rfl
  · rw [if_neg h, if_neg h]; rfl
theorem dueT_succ (f : Int → Option IxA) (w : WA) {l : List Int} {i : Nat} (h : i < l.length) : dueT f w (l.take (i + 1)) = dueT f w (l.take i) ++ (if nwF f w l[i] = 0 then [] else [(l[i], nwF f w l[i])]) := by
  rw [List.take_add_one, List.getElem?_eq_getElem h, Option.toList_some, dueT_app, dueT_one]
theorem dueT_pre (f : Int → Option IxA) (w : WA) (l : List Int) (i : Nat) : dueT f w (l.take i) <+: dueT f w l := by
  conv => rhs; rw [← List.take_append_drop i l]
  rw [dueT_app]; exact List.prefix_append _ _
theorem dueT_len (f : Int → Option IxA) (w : WA) (l : List Int) : (dueT f w l).length ≤ l.length := List.length_filterMap_le _ _
abbrev encPA (p : Int × Int) : List Value := [.agg (encPo p).toArray]
abbrev EpB (pb wb mb : Nat) (limit : Int) (f : Int → Option IxA) (m : Nat) (w : WA) (L : List SP) : List SP := EpH pb wb mb limit :: mp mb .i64 (fmap f) m :: WorldP wb w :: L
set_option maxHeartbeats 2000000 in
theorem due_ct (L : List SP) (pb : Nat) : Ct Try.prog 45 #[.pointer (some ⟨pb, 0, none⟩)] (L) (fun b : Nat => .func (.func 77) #[] #[.pointer (some ⟨b, 0, none⟩)]) (fun b : Nat => pt b [.pointer (some ⟨pb, 0, none⟩)] 32 :: L) := by
  refine Ct.of (vs := [.pointer (some ⟨pb, 0, none⟩)]) Try.func45 rfl rfl [(0, .pointer (some ⟨pb, 0, none⟩))] (by repeat (first | exact trivial | refine ⟨rfl, ?_⟩)) ?_
  intro E
  show Hd E 4 _ _ _ _
  refine Hd.seq (fun K1 hK1 => ?_)
  refine Hd.region ?_
  refine Hd.box rfl rfl (fun b1 => ?_)
  refine Hd.yv (y_assign rfl) ?_
  refine Hd.nil ?_
  refine Hd.slots [(1, _)] ⟨rfl, trivial⟩ ?_
  refine Hd.toK hK1 ?_
  refine Hd.seq (fun K2 hK2 => ?_)
  refine Hd.region ?_
  refine Hd.yv (y_mkf (fv := []) (cv := [_]) rfl rfl) ?_
  refine Hd.yv (y_assign rfl) ?_
  refine Hd.nil ?_
  refine Hd.slots [(2, _)] ⟨rfl, trivial⟩ ?_
  refine Hd.toK hK2 ?_
  refine Hd.ret ?_
  clear hK1 hK2
  exact Hd.ret1 rfl b1 rfl (Ent.sep enn)
theorem due_it (px pb wb mb : Nat) (limit : Int) (f : Int → Option IxA) (m : Nat) (hm : m ≤ 1000000) (w : WA) : RX.It Try.prog 77 [.pointer (some ⟨px, 0, none⟩)] encPA (fun ys => ys = dueL f w) (fun ys => ys <+: dueL f w)
    (EpM px pb wb mb limit f m w []) (EpM px pb wb mb limit f m w []) := by
  intro l J X hy
  refine Ct.of (vs := [.func (.yield l) #[] #[], .pointer (some ⟨px, 0, none⟩)]) Try.func77 rfl rfl [(0, .func (.yield l) #[] #[]), (1, .pointer (some ⟨px, 0, none⟩))] ⟨rfl, rfl, trivial⟩ ?_
  intro E
  show Hd E 35 _ _ _ _
  refine Hd.heap (EpM px pb wb mb limit f m w (J [])) (fun k h => by have := sep_app h; exact this) ?_
  refine Hd.wok pkk (fun hw => ?_)
  refine Hd.scope ?_
  refine Hd.seq (fun K1 hK1 => ?_)
  refine Hd.label ?_
  refine Hd.toK hK1 ?_
  refine Hd.seq (fun K2 hK2 => ?_)
  refine Hd.region ?_
  first | (refine Hd.yv (y_load1 ag32 rfl (Rd.pt1 pkk (by (first | rfl)))) ?_) | (refine Hd.yv (y_load1 ag32 rfl (Rd.seg1 pkk (by (first | rfl)))) ?_) | (refine Hd.yv (y_loadR1 ag32 rfl (by (first | exact RdS.own pkk)) (by (first | rfl))) ?_)
  refine Hd.callE rfl fk40 (all_ct _ pb wb mb limit f m hm w) (Ent.sep enn) ?_
  rintro ⟨ka, kc, ks⟩
  dsimp only
  refine Hd.pure (fun hA => ?_)
  obtain rfl := hA.eq hw
  clear hA
  have hkl := allL_len f w
  refine Hd.yv (y_len Try.underlying22 rfl) ?_
  refine Hd.yv (y_move rfl) ?_
  refine Hd.nil ?_
  refine Hd.slots [(0, _), (1, _), (7, _), (8, _), (9, _)] ⟨rfl, rfl, rfl, rfl, rfl, trivial⟩ ?_
  refine Hd.toK hK2 ?_
  refine Hd.block ?_
  refine Hd.loopK (ι := Nat) [(0, _), (1, _), (7, _), (8, _)] (fun i => [(9, .int .i64 (i : Int))]) (fun i => pu (i ≤ (allL f w).length) :: own 3 1 ka (allL f w).length kc (vi (allL f w)) :: EpM px pb wb mb limit f m w (J (dueT f w ((allL f w).take i)))) (fun i => (allL f w).length - i) 0 (by repeat (first | exact trivial | refine ⟨rfl, ?_⟩)) (by repeat (first | exact trivial | refine ⟨rfl, ?_⟩)) (Ent.sep (.pure (by first | omega | (simp; done) | (simp; omega) | exact ⟨by simp, by simp⟩) enn)) ?_
  intro i
  try dsimp only
  refine Hd.pure (fun hp0 => ?_)
  try dsimp only at hp0
  refine Hd.seq (fun K3 hK3 => ?_)
  refine Hd.region ?_
  refine Hd.yv (y_lss rfl rfl) ?_
  refine Hd.nil ?_
  refine Hd.slots [(0, _), (1, _), (7, _), (8, _), (9, _), (10, _)] ⟨rfl, rfl, rfl, rfl, rfl, rfl, trivial⟩ ?_
  refine Hd.toK hK3 ?_
  refine Hd.seq (fun K4 hK4 => ?_)
  refine Hd.cond rfl (fun hc0 => ?_) (fun hc0 => ?_)
  ·
    try simp only [decide_eq_true_eq, decide_eq_false_iff_not, Bool.and_eq_true, Bool.or_eq_true, Bool.and_eq_false_iff, Bool.or_eq_false_iff, Bool.not_eq_true', Bool.not_eq_false', Bool.not_eq_true, Bool.not_eq_false, Int.not_lt, Int.not_le, Decidable.not_not, ne_eq] at hc0
    have hi : i < (allL f w).length := by omega
    have hgi := vi_at hi
    have hsc := dueT_succ f w hi
    have hpr := dueT_pre f w (allL f w) (i + 1)
    refine Hd.skip ?_
    refine Hd.toK hK4 ?_
    refine Hd.seq (fun K5 hK5 => ?_)
    refine Hd.block ?_
    refine Hd.seq (fun K6 hK6 => ?_)
    refine Hd.region ?_
    first | (refine Hd.yv (y_idxS Try.underlying22 sz3 rfl rfl (by first | omega | decide)) ?_) | (refine Hd.yv (y_idxR Try.underlying22 sz3 rfl rfl (by first | omega | decide) (by (first | exact RdS.own pkk))) ?_)
    refine Hd.yv (y_loadR1 ag3 rfl (RdS.own (ad := ka) (us := vi (allL f w)) pkk) hgi) ?_
    refine Hd.yv (y_assign rfl) ?_
    refine Hd.nil ?_
    refine Hd.slots [(0, _), (1, _), (4, _), (7, _), (8, _), (9, _)] ⟨rfl, rfl, rfl, rfl, rfl, rfl, trivial⟩ ?_
    refine Hd.toK hK6 ?_
    refine Hd.seq (fun K7 hK7 => ?_)
    refine Hd.quiet mixed (by kernel_rfl) ?_
    first | (refine Hq.yv (y_load1 ag32 rfl (Rd.pt1 pkk (by (first | rfl)))) ?_) | (refine Hq.yv (y_load1 ag32 rfl (Rd.seg1 pkk (by (first | rfl)))) ?_) | (refine Hq.yv (y_loadR1 ag32 rfl (by (first | exact RdS.own pkk)) (by (first | rfl))) ?_)
    refine Hq.yv (y_nilp rfl) ?_
    first | (refine Hq.yv (y_field' (q := 2) (ft := 49) Try.underlying51 rfl sz49 rfl rfl) ?_) | (refine Hq.yv (y_fieldR (q := 2) (ft := 49) Try.underlying51 rfl sz49 rfl rfl) ?_)
    first | (refine Hq.yv (y_load1 ag49 rfl (Rd.pt1 pkk (by (first | rfl)))) ?_) | (refine Hq.yv (y_load1 ag49 rfl (Rd.seg1 pkk (by (first | rfl)))) ?_) | (refine Hq.yv (y_loadR1 ag49 rfl (by (first | exact RdS.own pkk)) (by (first | rfl))) ?_)
    refine Hq.yv (y_move rfl) ?_
    refine Hq.yv (y_to (v' := .agg (encIx ((f (allL f w)[i]).getD zIx)).toArray) (y_lookup mapt49 rfl rfl pkk) (by exact fmap_get f (allL f w)[i])) ?_
    first | (refine Hq.yv (y_load1 ag32 rfl (Rd.pt1 pkk (by (first | rfl)))) ?_) | (refine Hq.yv (y_load1 ag32 rfl (Rd.seg1 pkk (by (first | rfl)))) ?_) | (refine Hq.yv (y_loadR1 ag32 rfl (by (first | exact RdS.own pkk)) (by (first | rfl))) ?_)
    refine Hq.yv (y_nilp rfl) ?_
    first | (refine Hq.yv (y_field' (q := 0) (ft := 27) Try.underlying51 rfl sz27 rfl rfl) ?_) | (refine Hq.yv (y_fieldR (q := 0) (ft := 27) Try.underlying51 rfl sz27 rfl rfl) ?_)
    first | (refine Hq.yv (y_load1 ag27 rfl (Rd.pt1 pkk (by (first | rfl)))) ?_) | (refine Hq.yv (y_load1 ag27 rfl (Rd.seg1 pkk (by (first | rfl)))) ?_) | (refine Hq.yv (y_loadR1 ag27 rfl (by (first | exact RdS.own pkk)) (by (first | rfl))) ?_)
    refine Hq.yv (y_move rfl) ?_
    refine Hq.call rfl fk39 ((wready_ct _ wb w (allL f w)[i]).swap (Ent.sep enn) (Ent.sep enn)) ?_
    refine Hq.call rfl fk78 (now_ct _ ((f (allL f w)[i]).getD zIx) (readyR w (allL f w)[i])) ?_
    refine Hq.yv (y_assign rfl) ?_
    refine Hq.nil ?_
    refine Hd.slots [(0, _), (1, _), (4, _), (5, _), (7, _), (8, _), (9, _)] ⟨rfl, rfl, rfl, rfl, rfl, rfl, rfl, trivial⟩ ?_
    refine Hd.toK hK7 ?_
    refine Hd.seq (fun K8 hK8 => ?_)
    refine Hd.seq (fun K9 hK9 => ?_)
    refine Hd.region ?_
    refine Hd.yv (y_move rfl) ?_
    first | (refine Hd.yv (y_eqlT rfl rfl) ?_) | (refine Hd.yv (y_eql rfl rfl) ?_)
    refine Hd.nil ?_
    refine Hd.slots [(0, _), (1, _), (4, _), (5, _), (7, _), (8, _), (9, _), (27, _)] ⟨rfl, rfl, rfl, rfl, rfl, rfl, rfl, rfl, trivial⟩ ?_
    refine Hd.toK hK9 ?_
    refine Hd.cond rfl (fun hc1 => ?_) (fun hc1 => ?_)
    ·
      try simp only [decide_eq_true_eq, decide_eq_false_iff_not, Bool.and_eq_true, Bool.or_eq_true, Bool.and_eq_false_iff, Bool.or_eq_false_iff, Bool.not_eq_true', Bool.not_eq_false', Bool.not_eq_true, Bool.not_eq_false, Int.not_lt, Int.not_le, Decidable.not_not, ne_eq] at hc1
      refine Hd.exit ?_
      refine Hd.thenExit ?_
      refine Hd.inBexit ?_
      refine Hd.toK hK5 ?_
      refine Hd.region ?_
      first | (refine Hd.yv (y_addn rfl rfl (by simp only [InK]; omega)) ?_) | (refine Hd.yv (y_add rfl rfl) ?_)
      refine Hd.yv (y_move rfl) ?_
      refine Hd.nil ?_
      refine Hd.slots [(0, _), (1, _), (7, _), (8, _), (9, _)] ⟨rfl, rfl, rfl, rfl, rfl, trivial⟩ ?_
      clear hK1 hK2 hK3 hK4 hK5 hK6 hK7 hK8 hK9
      refine Hd.thenN ?_
      rw [if_pos (show nwF f w (allL f w)[i] = 0 from hc1), List.append_nil] at hsc
      rw [← hsc]
      exact Hd.again (i + 1) (by first | omega | (simp only; omega) | (simp; omega)) (by repeat (first | exact trivial | refine ⟨rfl, ?_⟩)) (Ent.sep (.pure (by first | omega | (simp; done) | (simp; omega) | (dsimp only; omega)) enn))
    ·
      try simp only [decide_eq_true_eq, decide_eq_false_iff_not, Bool.and_eq_true, Bool.or_eq_true, Bool.and_eq_false_iff, Bool.or_eq_false_iff, Bool.not_eq_true', Bool.not_eq_false', Bool.not_eq_true, Bool.not_eq_false, Int.not_lt, Int.not_le, Decidable.not_not, ne_eq] at hc1
      rw [if_neg (show ¬ nwF f w (allL f w)[i] = 0 from hc1)] at hsc
      rw [hsc] at hpr
      refine Hd.skip ?_
      refine Hd.toK hK8 ?_
      refine Hd.seq (fun K10 hK10 => ?_)
      refine Hd.region ?_
      refine Hd.yv (y_move rfl) ?_
      refine Hd.yv (y_move rfl) ?_
      refine Hd.yv (y_move rfl) ?_
      refine Hd.yv (y_build (vs := [(0, _), (1, _)]) rfl (by first | exact bd77_31 .. | kernel_rfl)) ?_
      refine Hd.yield (pre := dueT f w ((allL f w).take i)) (c := ((allL f w)[i], nwF f w (allL f w)[i])) (M := own 3 1 ka (allL f w).length kc (vi (allL f w)) :: EpM px pb wb mb limit f m w []) hy rfl rfl hpr (fun k' h => sep_app (show sep ((own 3 1 ka (allL f w).length kc (vi (allL f w)) :: EpM px pb wb mb limit f m w []) ++ J (dueT f w ((allL f w).take i))) k' from Ent.sep enn k' h)) ?_
      intro yb
      refine Hd.yv (y_not rfl) ?_
      refine Hd.nil ?_
      refine Hd.slots [(0, _), (1, _), (7, _), (8, _), (9, _), (33, _)] ⟨rfl, rfl, rfl, rfl, rfl, rfl, trivial⟩ ?_
      refine Hd.toK hK10 ?_
      refine Hd.cond rfl (fun hc2 => ?_) (fun hc2 => ?_)
      ·
        try simp only [decide_eq_true_eq, decide_eq_false_iff_not, Bool.and_eq_true, Bool.or_eq_true, Bool.and_eq_false_iff, Bool.or_eq_false_iff, Bool.not_eq_true', Bool.not_eq_false', Bool.not_eq_true, Bool.not_eq_false, Int.not_lt, Int.not_le, Decidable.not_not, ne_eq] at hc2
        subst hc2
        simp only [cond_false]
        refine Hd.ret ?_
        refine Hd.inBret ?_
        refine Hd.thenRet ?_
        refine Hd.thenRet ?_
        refine Hd.inBret ?_
        refine Hd.scRet ?_
        clear hK1 hK2 hK3 hK4 hK5 hK6 hK7 hK8 hK9 hK10
        exact Hd.ret0 rfl (dueT f w ((allL f w).take i) ++ [((allL f w)[i], nwF f w (allL f w)[i])], false) rfl (fun k' h => Ent.sep (.pure hpr .same) k' (sep_right (fun k s => Ent.sep (show Ent (own 3 1 ka (allL f w).length kc (vi (allL f w)) :: EpM px pb wb mb limit f m w []) (EpM px pb wb mb limit f m w []) from .skip .same) k s) h))
      ·
        try simp only [decide_eq_true_eq, decide_eq_false_iff_not, Bool.and_eq_true, Bool.or_eq_true, Bool.and_eq_false_iff, Bool.or_eq_false_iff, Bool.not_eq_true', Bool.not_eq_false', Bool.not_eq_true, Bool.not_eq_false, Int.not_lt, Int.not_le, Decidable.not_not, ne_eq] at hc2
        subst hc2
        simp only [cond_true]
        refine Hd.heap (own 3 1 ka (allL f w).length kc (vi (allL f w)) :: EpM px pb wb mb limit f m w (J (dueT f w ((allL f w).take i) ++ [((allL f w)[i], nwF f w (allL f w)[i])]))) (fun k' h => sep_app h) ?_
        rw [← hsc]
        refine Hd.skip ?_
        refine Hd.inB ?_
        refine Hd.toK hK5 ?_
        refine Hd.region ?_
        first | (refine Hd.yv (y_addn rfl rfl (by simp only [InK]; omega)) ?_) | (refine Hd.yv (y_add rfl rfl) ?_)
        refine Hd.yv (y_move rfl) ?_
        refine Hd.nil ?_
        refine Hd.slots [(0, _), (1, _), (7, _), (8, _), (9, _)] ⟨rfl, rfl, rfl, rfl, rfl, trivial⟩ ?_
        clear hK1 hK2 hK3 hK4 hK5 hK6 hK7 hK8 hK9 hK10
        refine Hd.thenN ?_
        exact Hd.again (i + 1) (by first | omega | (simp only; omega) | (simp; omega)) (by repeat (first | exact trivial | refine ⟨rfl, ?_⟩)) (Ent.sep (.pure (by first | omega | (simp; done) | (simp; omega) | (dsimp only; omega)) enn))
  ·
    try simp only [decide_eq_true_eq, decide_eq_false_iff_not, Bool.and_eq_true, Bool.or_eq_true, Bool.and_eq_false_iff, Bool.or_eq_false_iff, Bool.not_eq_true', Bool.not_eq_false', Bool.not_eq_true, Bool.not_eq_false, Int.not_lt, Int.not_le, Decidable.not_not, ne_eq] at hc0
    refine Hd.exit ?_
    refine Hd.thenExit ?_
    refine Hd.thenExit ?_
    refine Hd.inBexit ?_
    refine Hd.scNorm ?_
    clear hK1 hK2 hK3 hK4
    obtain rfl : i = (allL f w).length := by omega
    rw [List.take_length]
    exact Hd.end0 rfl (dueL f w, true) rfl (fun k' h => Ent.sep (.pure rfl .same) k' (sep_app (M := EpM px pb wb mb limit f m w []) (N := J (dueL f w)) (Ent.sep enn k' h)))
end Ep
end Go.Proofs.Ytbfddabjbkohdaa
namespace Go.Proofs.Ytbfddabjbkohdaa
set_option linter.unusedSimpArgs false
set_option linter.unusedVariables false
set_option linter.unnecessarySimpa false
open Go.RX Fx
namespace Sh
set_option maxRecDepth 8000
def swp {α : Type} (xs : List α) (i k : Nat) : List α :=
  match xs[i]?, xs[k]? with
  | some a, some b => (xs.set i b).set k a
  | _, _ => xs
theorem swp_len {α : Type} (xs : List α) (i k : Nat) : (swp xs i k).length = xs.length := by
  unfold swp; split <;> simp
def place (ord : List Int) (n i : Nat) : Nat := i + ((max 0 (ord.getD (i % ord.length) 0)) % ((n : Int) - i)).toNat
def shufTo {α : Type} (ord : List Int) (xs : List α) : Nat → List α
  | 0 => xs
  | i + 1 => if ord = [] then shufTo ord xs i else swp (shufTo ord xs i) i (place ord xs.length i)
theorem shuf_len {α : Type} (ord : List Int) (xs : List α) : ∀ i, (shufTo ord xs i).length = xs.length
  | 0 => rfl
  | i + 1 => by simp only [shufTo]; split <;> simp [swp_len, shuf_len ord xs i]
theorem shuf_nil {α : Type} {ord : List Int} (h : ord = []) (xs : List α) : ∀ i, shufTo ord xs i = xs
  | 0 => rfl
  | i + 1 => by simp only [shufTo, if_pos h]; exact shuf_nil h xs i
abbrev V (a : Int) : Value := .int .i64 a
theorem place_lt {ord : List Int} {n i : Nat} (h : i < n) : place ord n i < n := by
  unfold place
  have h1 := Int.emod_lt_of_pos (max 0 (ord.getD (i % ord.length) 0)) (b := (n : Int) - i) (by omega)
  have h2 := Int.emod_nonneg (max 0 (ord.getD (i % ord.length) 0)) (b := (n : Int) - i) (by omega)
  omega
theorem place_eq {ord : List Int} {n i : Nat} (h : i < n) {o : Int} (ho : ord[i % ord.length]? = some o) : (i : Int) + (max 0 o) % ((n : Int) - i) = (place ord n i : Int) := by
  unfold place
  have h2 := Int.emod_nonneg (max 0 o) (b := (n : Int) - i) (by omega)
  simp only [List.getD_eq_getElem?_getD, ho, Option.getD_some]
  omega
theorem swp_eq {α : Type} {xs : List α} {i k : Nat} (hi : i < xs.length) (hk : k < xs.length) : swp xs i k = (xs.set i xs[k]).set k xs[i] := by
  unfold swp; rw [List.getElem?_eq_getElem hi, List.getElem?_eq_getElem hk]
abbrev encPo2 (p : Int × Int) : List Value := [.int .i64 p.1, .int .i64 p.2]
theorem encPo2_one (p : Int × Int) : ∀ u ∈ encPo2 p, u.oneCell' = true := by simp [Value.oneCell']
theorem cloneInt_ct (L : List SP) (ad : Option Addr) (c : Nat) (xs : List Value) (h : RdS L 1 ad xs.length xs) (h1 : ∀ u ∈ xs, u.oneCell' = true) (hb : xs.length ≤ 10000000) :
    Ct Try.prog 32 #[.slice ad xs.length c] L (fun i : Option Addr × Nat => .slice i.1 xs.length i.2) (fun i => own 3 1 i.1 xs.length i.2 xs :: L) := by
  refine Ct.of (vs := [.slice ad xs.length c]) Try.func32 rfl rfl [(0, .slice ad xs.length c)] ⟨rfl, trivial⟩ ?_
  intro E
  show Hd E 8 _ _ _ _
  refine Hd.rdsF h (fun _ hnil => ?_)
  refine Hd.seq (fun K1 hK1 => ?_)
  refine Hd.region ?_
  refine Hd.yv (y_assign rfl) ?_
  refine Hd.nil ?_
  refine Hd.slots [(0, _)] ⟨rfl, trivial⟩ ?_
  refine Hd.toK hK1 ?_
  refine Hd.seq (fun K2 hK2 => ?_)
  refine Hd.seq (fun K3 hK3 => ?_)
  refine Hd.region ?_
  refine Hd.yv (y_move rfl) ?_
  refine Hd.yv (y_eql_slice Try.underlying22 rfl rfl) ?_
  refine Hd.nil ?_
  refine Hd.slots [(0, _), (4, _)] ⟨rfl, rfl, trivial⟩ ?_
  refine Hd.toK hK3 ?_
  refine Hd.cond rfl (fun hc0 => ?_) (fun hc0 => ?_)
  ·
    try simp only [decide_eq_true_eq, decide_eq_false_iff_not, Bool.and_eq_true, Bool.or_eq_true, Bool.and_eq_false_iff, Bool.or_eq_false_iff, Bool.not_eq_true', Bool.not_eq_false', Bool.not_eq_true, Bool.not_eq_false, Int.not_lt, Int.not_le, Decidable.not_not, ne_eq] at hc0
    refine Hd.seq (fun K4 hK4 => ?_)
    refine Hd.region ?_
    refine Hd.yv (y_assign rfl) ?_
    refine Hd.nil ?_
    refine Hd.slots [(2, _)] ⟨rfl, trivial⟩ ?_
    refine Hd.toK hK4 ?_
    refine Hd.ret ?_
    refine Hd.thenRet ?_
    clear hK1 hK2 hK3 hK4
    have h0 : xs = [] := List.eq_nil_of_length_eq_zero (hnil (by simpa using hc0))
    subst h0
    exact Hd.ret1 rfl (none, 0) rfl (Ent.sep (.ownNil .same))
  ·
    try simp only [decide_eq_true_eq, decide_eq_false_iff_not, Bool.and_eq_true, Bool.or_eq_true, Bool.and_eq_false_iff, Bool.or_eq_false_iff, Bool.not_eq_true', Bool.not_eq_false', Bool.not_eq_true, Bool.not_eq_false, Int.not_lt, Int.not_le, Decidable.not_not, ne_eq] at hc0
    refine Hd.skip ?_
    refine Hd.toK hK2 ?_
    refine Hd.seq (fun K5 hK5 => ?_)
    refine Hd.region ?_
    refine Hd.bslice (vs := []) rfl (by first | exact bs32_5 .. | kernel_rfl) (fun b5 => ?_)
    refine Hd.ownNil 3 1 (some ⟨b5, 0, none⟩) ?_
    refine Hd.yv (y_move rfl) ?_
    refine Hd.append Try.underlying22 ty3 rfl rfl rfl pkk (by first | exact RdS.rd (Rd.pt pkk (fun j v e => by simpa using e)) rfl | (first | exact RdS.own pkk | exact RdS.mono h (Ent.sep enn))) (by first | (simp [Value.oneCell']; done) | assumption) (by first | (simp only [maxLen]; omega) | assumption) (by omega) (fun ad7 cap7 => ?_)
    refine Hd.yv (y_assign rfl) ?_
    refine Hd.nil ?_
    refine Hd.slots [(2, _)] ⟨rfl, trivial⟩ ?_
    refine Hd.toK hK5 ?_
    refine Hd.ret ?_
    clear hK1 hK2 hK3 hK5
    refine Hd.ret1 rfl (ad7, cap7) (by simp; rfl) (Ent.sep (.eq pkk (own_eq (by omega) (by simp)) enn))
theorem shuffle_ct (L : List SP) (ad ao : Option Addr) (c co : Nat) (xs : List Int) (ord : List Int) (h : RdS L 1 ad xs.length (xs.map V)) (ho : RdS L 1 ao ord.length (ord.map V)) (hb : xs.length ≤ 1000000) (hob : ord.length ≤ 1000000) :
    Ct Try.prog 7 #[.slice ad xs.length c, .slice ao ord.length co] L (fun i : Option Addr × Nat => .slice i.1 xs.length i.2) (fun i => own 3 1 i.1 xs.length i.2 ((shufTo ord xs xs.length).map V) :: L) := by
  refine Ct.of (vs := [.slice ad xs.length c, .slice ao ord.length co]) Try.func7 rfl rfl [(0, .slice ad xs.length c), (1, .slice ao ord.length co)] ⟨rfl, rfl, trivial⟩ ?_
  intro E
  show Hd E 49 _ _ _ _
  refine Hd.seq (fun K1 hK1 => ?_)
  refine Hd.region ?_
  refine Hd.yv (y_assign rfl) ?_
  refine Hd.nil ?_
  refine Hd.slots [(0, _), (1, _)] ⟨rfl, rfl, trivial⟩ ?_
  refine Hd.toK hK1 ?_
  refine Hd.seq (fun K2 hK2 => ?_)
  refine Hd.region ?_
  refine Hd.yv (y_move rfl) ?_
  refine Hd.callE rfl fk32 (by have := cloneInt_ct L ad c (xs.map V) (by simpa using h) (by simp [Value.oneCell']) (by simp; omega); rw [List.length_map] at this; exact this) (Ent.sep enn) ?_
  rintro ⟨a1, c1⟩
  refine Hd.yv (y_assign rfl) ?_
  refine Hd.nil ?_
  refine Hd.slots [(1, _), (5, _)] ⟨rfl, rfl, trivial⟩ ?_
  refine Hd.toK hK2 ?_
  refine Hd.seq (fun K3 hK3 => ?_)
  refine Hd.seq (fun K4 hK4 => ?_)
  refine Hd.region ?_
  refine Hd.yv (y_move rfl) ?_
  refine Hd.yv (y_len Try.underlying22 rfl) ?_
  refine Hd.yv (y_move rfl) ?_
  refine Hd.nil ?_
  refine Hd.slots [(1, _), (5, _), (11, _), (12, _)] ⟨rfl, rfl, rfl, rfl, trivial⟩ ?_
  refine Hd.toK hK4 ?_
  refine Hd.block ?_
  refine Hd.loop (ι := Nat) (fun i => [(1, .slice ao ord.length co), (5, .slice a1 xs.length c1), (11, .int .i64 (xs.length : Int)), (12, .int .i64 (i : Int))])
    (fun i => pu (i ≤ xs.length) :: own 3 1 a1 xs.length c1 ((shufTo ord xs i).map V) :: L) (fun i => xs.length - i) 0 ⟨rfl, rfl, rfl, rfl, trivial⟩ (Ent.sep (.pure (by omega) enn)) ?_
  intro i
  refine Hd.pure (fun hi => ?_)
  have hl := shuf_len ord xs i
  refine Hd.seq (fun K5 hK5 => ?_)
  refine Hd.region ?_
  refine Hd.yv (y_lss rfl rfl) ?_
  refine Hd.nil ?_
  refine Hd.slots [(1, _), (5, _), (11, _), (12, _), (13, _)] ⟨rfl, rfl, rfl, rfl, rfl, trivial⟩ ?_
  refine Hd.toK hK5 ?_
  refine Hd.seq (fun K6 hK6 => ?_)
  refine Hd.cond rfl (fun hc0 => ?_) (fun hc0 => ?_)
  ·
    try simp only [decide_eq_true_eq, decide_eq_false_iff_not, Bool.and_eq_true, Bool.or_eq_true, Bool.and_eq_false_iff, Bool.or_eq_false_iff, Bool.not_eq_true', Bool.not_eq_false', Bool.not_eq_true, Bool.not_eq_false, Int.not_lt, Int.not_le, Decidable.not_not, ne_eq] at hc0
    have hi' : i < xs.length := by omega
    refine Hd.skip ?_
    refine Hd.toK hK6 ?_
    refine Hd.seq (fun K7 hK7 => ?_)
    refine Hd.block ?_
    refine Hd.seq (fun K8 hK8 => ?_)
    refine Hd.region ?_
    refine Hd.yv (y_move rfl) ?_
    refine Hd.yv (y_assign rfl) ?_
    refine Hd.nil ?_
    refine Hd.slots [(1, _), (5, _), (6, _), (11, _), (12, _)] ⟨rfl, rfl, rfl, rfl, rfl, trivial⟩ ?_
    refine Hd.toK hK8 ?_
    refine Hd.seq (fun K9 hK9 => ?_)
    refine Hd.region ?_
    refine Hd.yv (y_move rfl) ?_
    refine Hd.yv (y_len Try.underlying22 rfl) ?_
    refine Hd.yv (y_gtr rfl rfl) ?_
    refine Hd.nil ?_
    refine Hd.slots [(1, _), (5, _), (6, _), (11, _), (12, _), (17, _)] ⟨rfl, rfl, rfl, rfl, rfl, rfl, trivial⟩ ?_
    refine Hd.toK hK9 ?_
    refine Hd.cond rfl (fun hc1 => ?_) (fun hc1 => ?_)
    ·
      try simp only [decide_eq_true_eq, decide_eq_false_iff_not, Bool.and_eq_true, Bool.or_eq_true, Bool.and_eq_false_iff, Bool.or_eq_false_iff, Bool.not_eq_true', Bool.not_eq_false', Bool.not_eq_true, Bool.not_eq_false, Int.not_lt, Int.not_le, Decidable.not_not, ne_eq] at hc1
      obtain ⟨o, hoi⟩ : ∃ o, ord[i % ord.length]? = some o := ⟨_, List.getElem?_eq_getElem (Nat.mod_lt _ (by omega))⟩
      refine Hd.seq (fun K10 hK10 => ?_)
      refine Hd.region ?_
      refine Hd.yv (y_move rfl) ?_
      refine Hd.yv (y_move rfl) ?_
      refine Hd.yv (y_move rfl) ?_
      refine Hd.yv (y_move rfl) ?_
      refine Hd.yv (y_len Try.underlying22 rfl) ?_
      first | (refine Hd.yv (y_remN rfl rfl (by omega)) ?_) | (refine Hd.yv (y_remn rfl rfl (by omega) (by omega)) ?_) | (refine Hd.yv (y_rem rfl rfl (by omega)) ?_)
      have hml : i % ord.length < ord.length := Nat.mod_lt _ (by omega)
      first | (refine Hd.yv (y_idxS Try.underlying22 sz3 rfl rfl (by first | omega | decide)) ?_) | (refine Hd.yv (y_idxR Try.underlying22 sz3 rfl rfl (by first | omega | decide) (by (first | exact RdS.own pkk | exact RdS.mono ho (Ent.sep enn)))) ?_)
      first | (refine Hd.yv (y_load1 ag3 rfl (Rd.pt1 pkk (by (first | (simp [hoi]; rfl) | (simp [List.getElem?_eq_getElem, *]; rfl) | rfl)))) ?_) | (refine Hd.yv (y_load1 ag3 rfl (Rd.seg1 pkk (by (first | (simp [hoi]; rfl) | (simp [List.getElem?_eq_getElem, *]; rfl) | rfl)))) ?_) | (refine Hd.yv (y_loadR1 ag3 rfl (by (first | exact RdS.own pkk | exact RdS.mono ho (Ent.sep enn))) (by (first | (simp [hoi]; rfl) | (simp [List.getElem?_eq_getElem, *]; rfl) | rfl))) ?_)
      refine Hd.yv (y_max rfl rfl) ?_
      refine Hd.yv (y_move rfl) ?_
      refine Hd.yv (y_len Try.underlying22 rfl) ?_
      refine Hd.yv (y_move rfl) ?_
      first | (refine Hd.yv (y_subn rfl rfl (by simp only [InK]; omega)) ?_) | (refine Hd.yv (y_sub rfl rfl) ?_)
      first | (refine Hd.yv (y_remN rfl rfl (by omega)) ?_) | (refine Hd.yv (y_remn rfl rfl (by omega) (by omega)) ?_) | (refine Hd.yv (y_rem rfl rfl (by omega)) ?_)
      first | (refine Hd.yv (y_addn rfl rfl (by simp only [InK]; omega)) ?_) | (refine Hd.yv (y_add rfl rfl) ?_)
      rw [wrapIn (by rw [place_eq hi' hoi]; have hp := place_lt (ord := ord) hi'; simp only [InK]; omega)]
      refine Hd.name (b := (place ord xs.length i : Int)) 32 rfl (place_eq hi' hoi) ?_
      have hp := place_lt (ord := ord) hi'
      refine Hd.yv (y_assign rfl) ?_
      refine Hd.nil ?_
      refine Hd.slots [(1, _), (5, _), (6, _), (7, _), (11, _), (12, _)] ⟨rfl, rfl, rfl, rfl, rfl, rfl, trivial⟩ ?_
      refine Hd.toK hK10 ?_
      refine Hd.draws mixed ?_
      simp only [List.length, Nat.zero_add, Nat.reduceAdd]
      refine Hd.take 0 rfl (by kernel_rfl) (by kernel_rfl) (by kernel_rfl) (fun _ => y_move rfl) (fun _ _ => rfl) ?_
      refine Hd.take 1 rfl (by kernel_rfl) (by kernel_rfl) (by kernel_rfl) (fun _ => y_move rfl) (fun _ _ => rfl) ?_
      refine Hd.take 2 rfl (by kernel_rfl) (by kernel_rfl) (by kernel_rfl) (fun _ => y_move rfl) (fun _ _ => rfl) ?_
      refine Hd.take 3 rfl (by kernel_rfl) (by kernel_rfl) (by kernel_rfl) (fun _ => y_move rfl) (fun _ _ => rfl) ?_
      refine Hd.take 4 rfl (by kernel_rfl) (by kernel_rfl) (by kernel_rfl) (fun _ => y_move rfl) (fun _ _ => rfl) ?_
      refine Hd.take 5 rfl (by kernel_rfl) (by kernel_rfl) (by kernel_rfl) (fun _ => y_move rfl) (fun _ _ => rfl) ?_
      refine Hd.take 8 rfl (by kernel_rfl) (by kernel_rfl) (by kernel_rfl) (fun _ => y_move rfl) (fun _ _ => rfl) ?_
      refine Hd.take 9 rfl (by kernel_rfl) (by kernel_rfl) (by kernel_rfl) (fun _ => y_move rfl) (fun _ _ => rfl) ?_
      refine Hd.tailAt 13 [6, 7, 10, 11, 12] [13, 14, 15] rfl rfl rfl (by kernel_rfl) ?_
      simp only [pk, List.getElem?_cons_zero, List.getElem?_cons_succ]
      first | (refine Ht.yv (y_idxS Try.underlying22 sz3 rfl rfl (by first | omega | decide)) ?_) | (refine Ht.yv (y_idxR Try.underlying22 sz3 rfl rfl (by first | omega | decide) (by (first | exact RdS.own pkk | exact RdS.mono ho (Ent.sep enn)))) ?_)
      first | (refine Ht.yv (y_load1 ag3 rfl (Rd.pt1 pkk (by (first | (simp [hoi]; rfl) | (simp [List.getElem?_eq_getElem, *]; rfl) | rfl)))) ?_) | (refine Ht.yv (y_load1 ag3 rfl (Rd.seg1 pkk (by (first | (simp [hoi]; rfl) | (simp [List.getElem?_eq_getElem, *]; rfl) | rfl)))) ?_) | (refine Ht.yv (y_loadR1 ag3 rfl (by (first | exact RdS.own pkk | exact RdS.mono ho (Ent.sep enn))) (by (first | (simp [hoi]; rfl) | (simp [List.getElem?_eq_getElem, *]; rfl) | rfl))) ?_)
      first | (refine Ht.yv (y_idxS Try.underlying22 sz3 rfl rfl (by first | omega | decide)) ?_) | (refine Ht.yv (y_idxR Try.underlying22 sz3 rfl rfl (by first | omega | decide) (by (first | exact RdS.own pkk | exact RdS.mono ho (Ent.sep enn)))) ?_)
      first | (refine Ht.yv (y_load1 ag3 rfl (Rd.pt1 pkk (by (first | (simp [hoi]; rfl) | (simp [List.getElem?_eq_getElem, *]; rfl) | rfl)))) ?_) | (refine Ht.yv (y_load1 ag3 rfl (Rd.seg1 pkk (by (first | (simp [hoi]; rfl) | (simp [List.getElem?_eq_getElem, *]; rfl) | rfl)))) ?_) | (refine Ht.yv (y_loadR1 ag3 rfl (by (first | exact RdS.own pkk | exact RdS.mono ho (Ent.sep enn))) (by (first | (simp [hoi]; rfl) | (simp [List.getElem?_eq_getElem, *]; rfl) | rfl))) ?_)
      first | (refine Ht.yv (y_idxS Try.underlying22 sz3 rfl rfl (by first | omega | decide)) ?_) | (refine Ht.yv (y_idxR Try.underlying22 sz3 rfl rfl (by first | omega | decide) (by (first | exact RdS.own pkk | exact RdS.mono ho (Ent.sep enn)))) ?_)
      refine Ht.nil ?_
      first | (refine Hd.store1 sz3 rfl rfl rfl pkk (by first | decide | (simp; done) | (simp; omega)) ?_) | (refine Hd.storeG1 sz3 rfl rfl rfl pkk (by first | decide | (simp; done) | (simp; omega)) ?_) | (refine Hd.storeO1 sz3 rfl rfl rfl pkk (by first | omega | (simp; done) | (simp; omega)) ?_)
      try simp only [List.set_cons_zero, List.set_cons_succ]
      first | (refine Hd.yv (y_idxS Try.underlying22 sz3 rfl rfl (by first | omega | decide)) ?_) | (refine Hd.yv (y_idxR Try.underlying22 sz3 rfl rfl (by first | omega | decide) (by (first | exact RdS.own pkk | exact RdS.mono ho (Ent.sep enn)))) ?_)
      first | (refine Hd.store1 sz3 rfl rfl rfl pkk (by first | decide | (simp; done) | (simp; omega)) ?_) | (refine Hd.storeG1 sz3 rfl rfl rfl pkk (by first | decide | (simp; done) | (simp; omega)) ?_) | (refine Hd.storeO1 sz3 rfl rfl rfl pkk (by first | omega | (simp; done) | (simp; omega)) ?_)
      try simp only [List.set_cons_zero, List.set_cons_succ]
      refine Hd.nil ?_
      refine Hd.noPn ?_
      refine Hd.slots [(1, _), (5, _), (11, _), (12, _)] ⟨rfl, rfl, rfl, rfl, trivial⟩ ?_
      refine Hd.inB ?_
      refine Hd.toK hK7 ?_
      refine Hd.region ?_
      first | (refine Hd.yv (y_addn rfl rfl (by simp only [InK]; omega)) ?_) | (refine Hd.yv (y_add rfl rfl) ?_)
      refine Hd.yv (y_move rfl) ?_
      refine Hd.nil ?_
      refine Hd.slots [(1, _), (5, _), (11, _), (12, _)] ⟨rfl, rfl, rfl, rfl, trivial⟩ ?_
      clear hK1 hK2 hK3 hK4 hK5 hK6 hK7 hK8 hK9 hK10
      refine Hd.thenN ?_
      refine Hd.again (i + 1) (by omega) ⟨rfl, rfl, rfl, rfl, trivial⟩ (Ent.sep (.pure (by omega) (.eq pkk (own_eq rfl ?_) enn)))
      simp only [shufTo]; rw [if_neg (by intro e; simp [e] at hc1), swp_eq (by omega) (by omega)]
      simp [List.map_set]
    ·
      try simp only [decide_eq_true_eq, decide_eq_false_iff_not, Bool.and_eq_true, Bool.or_eq_true, Bool.and_eq_false_iff, Bool.or_eq_false_iff, Bool.not_eq_true', Bool.not_eq_false', Bool.not_eq_true, Bool.not_eq_false, Int.not_lt, Int.not_le, Decidable.not_not, ne_eq] at hc1
      refine Hd.skip ?_
      refine Hd.inB ?_
      refine Hd.toK hK7 ?_
      refine Hd.region ?_
      first | (refine Hd.yv (y_addn rfl rfl (by simp only [InK]; omega)) ?_) | (refine Hd.yv (y_add rfl rfl) ?_)
      refine Hd.yv (y_move rfl) ?_
      refine Hd.nil ?_
      refine Hd.slots [(1, _), (5, _), (11, _), (12, _)] ⟨rfl, rfl, rfl, rfl, trivial⟩ ?_
      clear hK1 hK2 hK3 hK4 hK5 hK6 hK7 hK8 hK9
      refine Hd.thenN ?_
      refine Hd.again (i + 1) (by omega) ⟨rfl, rfl, rfl, rfl, trivial⟩ (Ent.sep (.pure (by omega) (.eq pkk (own_eq rfl ?_) enn)))
      simp only [shufTo]; rw [if_pos (List.eq_nil_of_length_eq_zero (by omega))]
  ·
    try simp only [decide_eq_true_eq, decide_eq_false_iff_not, Bool.and_eq_true, Bool.or_eq_true, Bool.and_eq_false_iff, Bool.or_eq_false_iff, Bool.not_eq_true', Bool.not_eq_false', Bool.not_eq_true, Bool.not_eq_false, Int.not_lt, Int.not_le, Decidable.not_not, ne_eq] at hc0
    refine Hd.exit ?_
    refine Hd.thenExit ?_
    refine Hd.thenExit ?_
    refine Hd.inBexit ?_
    refine Hd.toK hK3 ?_
    refine Hd.seq (fun K11 hK11 => ?_)
    refine Hd.region ?_
    refine Hd.yv (y_move rfl) ?_
    refine Hd.yv (y_assign rfl) ?_
    refine Hd.nil ?_
    refine Hd.slots [(4, _)] ⟨rfl, trivial⟩ ?_
    refine Hd.toK hK11 ?_
    refine Hd.ret ?_
    clear hK1 hK2 hK3 hK4 hK5 hK6 hK11
    obtain rfl : i = xs.length := by omega
    exact Hd.ret1 rfl (a1, c1) rfl (Ent.sep enn)
abbrev VS (s : List UInt8) : Value := .string (str s)
theorem cloneStr_ct (L : List SP) (ad : Option Addr) (c : Nat) (xs : List Value) (h : RdS L 1 ad xs.length xs) (h1 : ∀ u ∈ xs, u.oneCell' = true) (hb : xs.length ≤ 10000000) :
    Ct Try.prog 50 #[.slice ad xs.length c] L (fun i : Option Addr × Nat => .slice i.1 xs.length i.2) (fun i => own 9 1 i.1 xs.length i.2 xs :: L) := by
  refine Ct.of (vs := [.slice ad xs.length c]) Try.func50 rfl rfl [(0, .slice ad xs.length c)] ⟨rfl, trivial⟩ ?_
  intro E
  show Hd E 8 _ _ _ _
  refine Hd.rdsF h (fun _ hnil => ?_)
  refine Hd.seq (fun K1 hK1 => ?_)
  refine Hd.region ?_
  refine Hd.yv (y_assign rfl) ?_
  refine Hd.nil ?_
  refine Hd.slots [(0, _)] ⟨rfl, trivial⟩ ?_
  refine Hd.toK hK1 ?_
  refine Hd.seq (fun K2 hK2 => ?_)
  refine Hd.seq (fun K3 hK3 => ?_)
  refine Hd.region ?_
  refine Hd.yv (y_move rfl) ?_
  refine Hd.yv (y_eql_slice Try.underlying47 rfl rfl) ?_
  refine Hd.nil ?_
  refine Hd.slots [(0, _), (4, _)] ⟨rfl, rfl, trivial⟩ ?_
  refine Hd.toK hK3 ?_
  refine Hd.cond rfl (fun hc0 => ?_) (fun hc0 => ?_)
  ·
    try simp only [decide_eq_true_eq, decide_eq_false_iff_not, Bool.and_eq_true, Bool.or_eq_true, Bool.and_eq_false_iff, Bool.or_eq_false_iff, Bool.not_eq_true', Bool.not_eq_false', Bool.not_eq_true, Bool.not_eq_false, Int.not_lt, Int.not_le, Decidable.not_not, ne_eq] at hc0
    refine Hd.seq (fun K4 hK4 => ?_)
    refine Hd.region ?_
    refine Hd.yv (y_assign rfl) ?_
    refine Hd.nil ?_
    refine Hd.slots [(2, _)] ⟨rfl, trivial⟩ ?_
    refine Hd.toK hK4 ?_
    refine Hd.ret ?_
    refine Hd.thenRet ?_
    clear hK1 hK2 hK3 hK4
    have h0 : xs = [] := List.eq_nil_of_length_eq_zero (hnil (by simpa using hc0))
    subst h0
    exact Hd.ret1 rfl (none, 0) rfl (Ent.sep (.ownNil .same))
  ·
    try simp only [decide_eq_true_eq, decide_eq_false_iff_not, Bool.and_eq_true, Bool.or_eq_true, Bool.and_eq_false_iff, Bool.or_eq_false_iff, Bool.not_eq_true', Bool.not_eq_false', Bool.not_eq_true, Bool.not_eq_false, Int.not_lt, Int.not_le, Decidable.not_not, ne_eq] at hc0
    refine Hd.skip ?_
    refine Hd.toK hK2 ?_
    refine Hd.seq (fun K5 hK5 => ?_)
    refine Hd.region ?_
    refine Hd.bslice (vs := []) rfl (by first | exact bs50_5 .. | kernel_rfl) (fun b5 => ?_)
    refine Hd.ownNil 9 1 (some ⟨b5, 0, none⟩) ?_
    refine Hd.yv (y_move rfl) ?_
    refine Hd.append Try.underlying47 ty9 rfl rfl rfl pkk (by first | exact RdS.rd (Rd.pt pkk (fun j v e => by simpa using e)) rfl | (first | exact RdS.own pkk | exact RdS.mono h (Ent.sep enn))) (by first | (simp [Value.oneCell']; done) | assumption) (by first | (simp only [maxLen]; omega) | assumption) (by omega) (fun ad7 cap7 => ?_)
    refine Hd.yv (y_assign rfl) ?_
    refine Hd.nil ?_
    refine Hd.slots [(2, _)] ⟨rfl, trivial⟩ ?_
    refine Hd.toK hK5 ?_
    refine Hd.ret ?_
    clear hK1 hK2 hK3 hK5
    refine Hd.ret1 rfl (ad7, cap7) (by simp; rfl) (Ent.sep (.eq pkk (own_eq (by omega) (by simp)) enn))
theorem shuffleS_ct (L : List SP) (ad ao : Option Addr) (c co : Nat) (xs : List (List UInt8)) (ord : List Int) (h : RdS L 1 ad xs.length (xs.map VS)) (ho : RdS L 1 ao ord.length (ord.map V)) (hb : xs.length ≤ 1000000) (hob : ord.length ≤ 1000000) :
    Ct Try.prog 18 #[.slice ad xs.length c, .slice ao ord.length co] L (fun i : Option Addr × Nat => .slice i.1 xs.length i.2) (fun i => own 9 1 i.1 xs.length i.2 ((shufTo ord xs xs.length).map VS) :: L) := by
  refine Ct.of (vs := [.slice ad xs.length c, .slice ao ord.length co]) Try.func18 rfl rfl [(0, .slice ad xs.length c), (1, .slice ao ord.length co)] ⟨rfl, rfl, trivial⟩ ?_
  intro E
  show Hd E 49 _ _ _ _
  refine Hd.seq (fun K1 hK1 => ?_)
  refine Hd.region ?_
  refine Hd.yv (y_assign rfl) ?_
  refine Hd.nil ?_
  refine Hd.slots [(0, _), (1, _)] ⟨rfl, rfl, trivial⟩ ?_
  refine Hd.toK hK1 ?_
  refine Hd.seq (fun K2 hK2 => ?_)
  refine Hd.region ?_
  refine Hd.yv (y_move rfl) ?_
  refine Hd.callE rfl fk50 (by have := cloneStr_ct L ad c (xs.map VS) (by simpa using h) (by simp [Value.oneCell']) (by simp; omega); rw [List.length_map] at this; exact this) (Ent.sep enn) ?_
  rintro ⟨a1, c1⟩
  refine Hd.yv (y_assign rfl) ?_
  refine Hd.nil ?_
  refine Hd.slots [(1, _), (5, _)] ⟨rfl, rfl, trivial⟩ ?_
  refine Hd.toK hK2 ?_
  refine Hd.seq (fun K3 hK3 => ?_)
  refine Hd.seq (fun K4 hK4 => ?_)
  refine Hd.region ?_
  refine Hd.yv (y_move rfl) ?_
  refine Hd.yv (y_len Try.underlying47 rfl) ?_
  refine Hd.yv (y_move rfl) ?_
  refine Hd.nil ?_
  refine Hd.slots [(1, _), (5, _), (11, _), (12, _)] ⟨rfl, rfl, rfl, rfl, trivial⟩ ?_
  refine Hd.toK hK4 ?_
  refine Hd.block ?_
  refine Hd.loop (ι := Nat) (fun i => [(1, .slice ao ord.length co), (5, .slice a1 xs.length c1), (11, .int .i64 (xs.length : Int)), (12, .int .i64 (i : Int))])
    (fun i => pu (i ≤ xs.length) :: own 9 1 a1 xs.length c1 ((shufTo ord xs i).map VS) :: L) (fun i => xs.length - i) 0 ⟨rfl, rfl, rfl, rfl, trivial⟩ (Ent.sep (.pure (by omega) enn)) ?_
  intro i
  refine Hd.pure (fun hi => ?_)
  have hl := shuf_len ord xs i
  refine Hd.seq (fun K5 hK5 => ?_)
  refine Hd.region ?_
  refine Hd.yv (y_lss rfl rfl) ?_
  refine Hd.nil ?_
  refine Hd.slots [(1, _), (5, _), (11, _), (12, _), (13, _)] ⟨rfl, rfl, rfl, rfl, rfl, trivial⟩ ?_
  refine Hd.toK hK5 ?_
  refine Hd.seq (fun K6 hK6 => ?_)
  refine Hd.cond rfl (fun hc0 => ?_) (fun hc0 => ?_)
  ·
    try simp only [decide_eq_true_eq, decide_eq_false_iff_not, Bool.and_eq_true, Bool.or_eq_true, Bool.and_eq_false_iff, Bool.or_eq_false_iff, Bool.not_eq_true', Bool.not_eq_false', Bool.not_eq_true, Bool.not_eq_false, Int.not_lt, Int.not_le, Decidable.not_not, ne_eq] at hc0
    have hi' : i < xs.length := by omega
    refine Hd.skip ?_
    refine Hd.toK hK6 ?_
    refine Hd.seq (fun K7 hK7 => ?_)
    refine Hd.block ?_
    refine Hd.seq (fun K8 hK8 => ?_)
    refine Hd.region ?_
    refine Hd.yv (y_move rfl) ?_
    refine Hd.yv (y_assign rfl) ?_
    refine Hd.nil ?_
    refine Hd.slots [(1, _), (5, _), (6, _), (11, _), (12, _)] ⟨rfl, rfl, rfl, rfl, rfl, trivial⟩ ?_
    refine Hd.toK hK8 ?_
    refine Hd.seq (fun K9 hK9 => ?_)
    refine Hd.region ?_
    refine Hd.yv (y_move rfl) ?_
    refine Hd.yv (y_len Try.underlying22 rfl) ?_
    refine Hd.yv (y_gtr rfl rfl) ?_
    refine Hd.nil ?_
    refine Hd.slots [(1, _), (5, _), (6, _), (11, _), (12, _), (17, _)] ⟨rfl, rfl, rfl, rfl, rfl, rfl, trivial⟩ ?_
    refine Hd.toK hK9 ?_
    refine Hd.cond rfl (fun hc1 => ?_) (fun hc1 => ?_)
    ·
      try simp only [decide_eq_true_eq, decide_eq_false_iff_not, Bool.and_eq_true, Bool.or_eq_true, Bool.and_eq_false_iff, Bool.or_eq_false_iff, Bool.not_eq_true', Bool.not_eq_false', Bool.not_eq_true, Bool.not_eq_false, Int.not_lt, Int.not_le, Decidable.not_not, ne_eq] at hc1
      obtain ⟨o, hoi⟩ : ∃ o, ord[i % ord.length]? = some o := ⟨_, List.getElem?_eq_getElem (Nat.mod_lt _ (by omega))⟩
      refine Hd.seq (fun K10 hK10 => ?_)
      refine Hd.region ?_
      refine Hd.yv (y_move rfl) ?_
      refine Hd.yv (y_move rfl) ?_
      refine Hd.yv (y_move rfl) ?_
      refine Hd.yv (y_move rfl) ?_
      refine Hd.yv (y_len Try.underlying22 rfl) ?_
      first | (refine Hd.yv (y_remN rfl rfl (by omega)) ?_) | (refine Hd.yv (y_remn rfl rfl (by omega) (by omega)) ?_) | (refine Hd.yv (y_rem rfl rfl (by omega)) ?_)
      have hml : i % ord.length < ord.length := Nat.mod_lt _ (by omega)
      first | (refine Hd.yv (y_idxS Try.underlying22 sz3 rfl rfl (by first | omega | decide)) ?_) | (refine Hd.yv (y_idxR Try.underlying22 sz3 rfl rfl (by first | omega | decide) (by (first | exact RdS.own pkk | exact RdS.mono ho (Ent.sep enn)))) ?_)
      first | (refine Hd.yv (y_load1 ag3 rfl (Rd.pt1 pkk (by (first | (simp [hoi]; rfl) | (simp [List.getElem?_eq_getElem, *]; rfl) | rfl)))) ?_) | (refine Hd.yv (y_load1 ag3 rfl (Rd.seg1 pkk (by (first | (simp [hoi]; rfl) | (simp [List.getElem?_eq_getElem, *]; rfl) | rfl)))) ?_) | (refine Hd.yv (y_loadR1 ag3 rfl (by (first | exact RdS.own pkk | exact RdS.mono ho (Ent.sep enn))) (by (first | (simp [hoi]; rfl) | (simp [List.getElem?_eq_getElem, *]; rfl) | rfl))) ?_)
      refine Hd.yv (y_max rfl rfl) ?_
      refine Hd.yv (y_move rfl) ?_
      refine Hd.yv (y_len Try.underlying47 rfl) ?_
      refine Hd.yv (y_move rfl) ?_
      first | (refine Hd.yv (y_subn rfl rfl (by simp only [InK]; omega)) ?_) | (refine Hd.yv (y_sub rfl rfl) ?_)
      first | (refine Hd.yv (y_remN rfl rfl (by omega)) ?_) | (refine Hd.yv (y_remn rfl rfl (by omega) (by omega)) ?_) | (refine Hd.yv (y_rem rfl rfl (by omega)) ?_)
      first | (refine Hd.yv (y_addn rfl rfl (by simp only [InK]; omega)) ?_) | (refine Hd.yv (y_add rfl rfl) ?_)
      rw [wrapIn (by rw [place_eq hi' hoi]; have hp := place_lt (ord := ord) hi'; simp only [InK]; omega)]
      refine Hd.name (b := (place ord xs.length i : Int)) 32 rfl (place_eq hi' hoi) ?_
      have hp := place_lt (ord := ord) hi'
      refine Hd.yv (y_assign rfl) ?_
      refine Hd.nil ?_
      refine Hd.slots [(1, _), (5, _), (6, _), (7, _), (11, _), (12, _)] ⟨rfl, rfl, rfl, rfl, rfl, rfl, trivial⟩ ?_
      refine Hd.toK hK10 ?_
      refine Hd.draws mixed ?_
      simp only [List.length, Nat.zero_add, Nat.reduceAdd]
      refine Hd.take 0 rfl (by kernel_rfl) (by kernel_rfl) (by kernel_rfl) (fun _ => y_move rfl) (fun _ _ => rfl) ?_
      refine Hd.take 1 rfl (by kernel_rfl) (by kernel_rfl) (by kernel_rfl) (fun _ => y_move rfl) (fun _ _ => rfl) ?_
      refine Hd.take 2 rfl (by kernel_rfl) (by kernel_rfl) (by kernel_rfl) (fun _ => y_move rfl) (fun _ _ => rfl) ?_
      refine Hd.take 3 rfl (by kernel_rfl) (by kernel_rfl) (by kernel_rfl) (fun _ => y_move rfl) (fun _ _ => rfl) ?_
      refine Hd.take 4 rfl (by kernel_rfl) (by kernel_rfl) (by kernel_rfl) (fun _ => y_move rfl) (fun _ _ => rfl) ?_
      refine Hd.take 5 rfl (by kernel_rfl) (by kernel_rfl) (by kernel_rfl) (fun _ => y_move rfl) (fun _ _ => rfl) ?_
      refine Hd.take 8 rfl (by kernel_rfl) (by kernel_rfl) (by kernel_rfl) (fun _ => y_move rfl) (fun _ _ => rfl) ?_
      refine Hd.take 9 rfl (by kernel_rfl) (by kernel_rfl) (by kernel_rfl) (fun _ => y_move rfl) (fun _ _ => rfl) ?_
      refine Hd.tailAt 13 [6, 7, 10, 11, 12] [13, 14, 15] rfl rfl rfl (by kernel_rfl) ?_
      simp only [pk, List.getElem?_cons_zero, List.getElem?_cons_succ]
      first | (refine Ht.yv (y_idxS Try.underlying47 sz9 rfl rfl (by first | omega | decide)) ?_) | (refine Ht.yv (y_idxR Try.underlying47 sz9 rfl rfl (by first | omega | decide) (by (first | exact RdS.own pkk | exact RdS.mono ho (Ent.sep enn)))) ?_)
      first | (refine Ht.yv (y_load1 ag9 rfl (Rd.pt1 pkk (by (first | (simp [hoi]; rfl) | (simp [List.getElem?_eq_getElem, *]; rfl) | rfl)))) ?_) | (refine Ht.yv (y_load1 ag9 rfl (Rd.seg1 pkk (by (first | (simp [hoi]; rfl) | (simp [List.getElem?_eq_getElem, *]; rfl) | rfl)))) ?_) | (refine Ht.yv (y_loadR1 ag9 rfl (by (first | exact RdS.own pkk | exact RdS.mono ho (Ent.sep enn))) (by (first | (simp [hoi]; rfl) | (simp [List.getElem?_eq_getElem, *]; rfl) | rfl))) ?_)
      first | (refine Ht.yv (y_idxS Try.underlying47 sz9 rfl rfl (by first | omega | decide)) ?_) | (refine Ht.yv (y_idxR Try.underlying47 sz9 rfl rfl (by first | omega | decide) (by (first | exact RdS.own pkk | exact RdS.mono ho (Ent.sep enn)))) ?_)
      first | (refine Ht.yv (y_load1 ag9 rfl (Rd.pt1 pkk (by (first | (simp [hoi]; rfl) | (simp [List.getElem?_eq_getElem, *]; rfl) | rfl)))) ?_) | (refine Ht.yv (y_load1 ag9 rfl (Rd.seg1 pkk (by (first | (simp [hoi]; rfl) | (simp [List.getElem?_eq_getElem, *]; rfl) | rfl)))) ?_) | (refine Ht.yv (y_loadR1 ag9 rfl (by (first | exact RdS.own pkk | exact RdS.mono ho (Ent.sep enn))) (by (first | (simp [hoi]; rfl) | (simp [List.getElem?_eq_getElem, *]; rfl) | rfl))) ?_)
      first | (refine Ht.yv (y_idxS Try.underlying47 sz9 rfl rfl (by first | omega | decide)) ?_) | (refine Ht.yv (y_idxR Try.underlying47 sz9 rfl rfl (by first | omega | decide) (by (first | exact RdS.own pkk | exact RdS.mono ho (Ent.sep enn)))) ?_)
      refine Ht.nil ?_
      first | (refine Hd.store1 sz9 rfl rfl rfl pkk (by first | decide | (simp; done) | (simp; omega)) ?_) | (refine Hd.storeG1 sz9 rfl rfl rfl pkk (by first | decide | (simp; done) | (simp; omega)) ?_) | (refine Hd.storeO1 sz9 rfl rfl rfl pkk (by first | omega | (simp; done) | (simp; omega)) ?_)
      try simp only [List.set_cons_zero, List.set_cons_succ]
      first | (refine Hd.yv (y_idxS Try.underlying47 sz9 rfl rfl (by first | omega | decide)) ?_) | (refine Hd.yv (y_idxR Try.underlying47 sz9 rfl rfl (by first | omega | decide) (by (first | exact RdS.own pkk | exact RdS.mono ho (Ent.sep enn)))) ?_)
      first | (refine Hd.store1 sz9 rfl rfl rfl pkk (by first | decide | (simp; done) | (simp; omega)) ?_) | (refine Hd.storeG1 sz9 rfl rfl rfl pkk (by first | decide | (simp; done) | (simp; omega)) ?_) | (refine Hd.storeO1 sz9 rfl rfl rfl pkk (by first | omega | (simp; done) | (simp; omega)) ?_)
      try simp only [List.set_cons_zero, List.set_cons_succ]
      refine Hd.nil ?_
      refine Hd.noPn ?_
      refine Hd.slots [(1, _), (5, _), (11, _), (12, _)] ⟨rfl, rfl, rfl, rfl, trivial⟩ ?_
      refine Hd.inB ?_
      refine Hd.toK hK7 ?_
      refine Hd.region ?_
      first | (refine Hd.yv (y_addn rfl rfl (by simp only [InK]; omega)) ?_) | (refine Hd.yv (y_add rfl rfl) ?_)
      refine Hd.yv (y_move rfl) ?_
      refine Hd.nil ?_
      refine Hd.slots [(1, _), (5, _), (11, _), (12, _)] ⟨rfl, rfl, rfl, rfl, trivial⟩ ?_
      clear hK1 hK2 hK3 hK4 hK5 hK6 hK7 hK8 hK9 hK10
      refine Hd.thenN ?_
      refine Hd.again (i + 1) (by omega) ⟨rfl, rfl, rfl, rfl, trivial⟩ (Ent.sep (.pure (by omega) (.eq pkk (own_eq rfl ?_) enn)))
      simp only [shufTo]; rw [if_neg (by intro e; simp [e] at hc1), swp_eq (by omega) (by omega)]
      simp [List.map_set]
    ·
      try simp only [decide_eq_true_eq, decide_eq_false_iff_not, Bool.and_eq_true, Bool.or_eq_true, Bool.and_eq_false_iff, Bool.or_eq_false_iff, Bool.not_eq_true', Bool.not_eq_false', Bool.not_eq_true, Bool.not_eq_false, Int.not_lt, Int.not_le, Decidable.not_not, ne_eq] at hc1
      refine Hd.skip ?_
      refine Hd.inB ?_
      refine Hd.toK hK7 ?_
      refine Hd.region ?_
      first | (refine Hd.yv (y_addn rfl rfl (by simp only [InK]; omega)) ?_) | (refine Hd.yv (y_add rfl rfl) ?_)
      refine Hd.yv (y_move rfl) ?_
      refine Hd.nil ?_
      refine Hd.slots [(1, _), (5, _), (11, _), (12, _)] ⟨rfl, rfl, rfl, rfl, trivial⟩ ?_
      clear hK1 hK2 hK3 hK4 hK5 hK6 hK7 hK8 hK9
      refine Hd.thenN ?_
      refine Hd.again (i + 1) (by omega) ⟨rfl, rfl, rfl, rfl, trivial⟩ (Ent.sep (.pure (by omega) (.eq pkk (own_eq rfl ?_) enn)))
      simp only [shufTo]; rw [if_pos (List.eq_nil_of_length_eq_zero (by omega))]
  ·
    try simp only [decide_eq_true_eq, decide_eq_false_iff_not, Bool.and_eq_true, Bool.or_eq_true, Bool.and_eq_false_iff, Bool.or_eq_false_iff, Bool.not_eq_true', Bool.not_eq_false', Bool.not_eq_true, Bool.not_eq_false, Int.not_lt, Int.not_le, Decidable.not_not, ne_eq] at hc0
    refine Hd.exit ?_
    refine Hd.thenExit ?_
    refine Hd.thenExit ?_
    refine Hd.inBexit ?_
    refine Hd.toK hK3 ?_
    refine Hd.seq (fun K11 hK11 => ?_)
    refine Hd.region ?_
    refine Hd.yv (y_move rfl) ?_
    refine Hd.yv (y_assign rfl) ?_
    refine Hd.nil ?_
    refine Hd.slots [(4, _)] ⟨rfl, trivial⟩ ?_
    refine Hd.toK hK11 ?_
    refine Hd.ret ?_
    clear hK1 hK2 hK3 hK4 hK5 hK6 hK11
    obtain rfl : i = xs.length := by omega
    exact Hd.ret1 rfl (a1, c1) rfl (Ent.sep enn)
theorem cloneP_ct (L : List SP) (ad : Option Addr) (c : Nat) (xs : List (Int × Int)) (h : RdS L 2 ad xs.length (xs.flatMap encPo2)) (hb : xs.length ≤ 10000000) :
    Ct Try.prog 79 #[.slice ad xs.length c] L (fun i : Option Addr × Nat => .slice i.1 xs.length i.2) (fun i => own 40 2 i.1 xs.length i.2 (xs.flatMap encPo2) :: L) := by
  refine Ct.of (vs := [.slice ad xs.length c]) Try.func79 rfl rfl [(0, .slice ad xs.length c)] ⟨rfl, trivial⟩ ?_
  intro E
  show Hd E 8 _ _ _ _
  refine Hd.rdsF h (fun _ hnil => ?_)
  have h1 : ∀ u ∈ xs.flatMap encPo2, u.oneCell' = true := fun u hu => by
    obtain ⟨y, _, hy⟩ := List.mem_flatMap.1 hu
    exact encPo2_one y u hy
  refine Hd.seq (fun K1 hK1 => ?_)
  refine Hd.region ?_
  refine Hd.yv (y_assign rfl) ?_
  refine Hd.nil ?_
  refine Hd.slots [(0, _)] ⟨rfl, trivial⟩ ?_
  refine Hd.toK hK1 ?_
  refine Hd.seq (fun K2 hK2 => ?_)
  refine Hd.seq (fun K3 hK3 => ?_)
  refine Hd.region ?_
  refine Hd.yv (y_move rfl) ?_
  refine Hd.yv (y_eql_slice Try.underlying43 rfl rfl) ?_
  refine Hd.nil ?_
  refine Hd.slots [(0, _), (4, _)] ⟨rfl, rfl, trivial⟩ ?_
  refine Hd.toK hK3 ?_
  refine Hd.cond rfl (fun hc0 => ?_) (fun hc0 => ?_)
  ·
    try simp only [decide_eq_true_eq, decide_eq_false_iff_not, Bool.and_eq_true, Bool.or_eq_true, Bool.and_eq_false_iff, Bool.or_eq_false_iff, Bool.not_eq_true', Bool.not_eq_false', Bool.not_eq_true, Bool.not_eq_false, Int.not_lt, Int.not_le, Decidable.not_not, ne_eq] at hc0
    refine Hd.seq (fun K4 hK4 => ?_)
    refine Hd.region ?_
    refine Hd.yv (y_assign rfl) ?_
    refine Hd.nil ?_
    refine Hd.slots [(2, _)] ⟨rfl, trivial⟩ ?_
    refine Hd.toK hK4 ?_
    refine Hd.ret ?_
    refine Hd.thenRet ?_
    clear hK1 hK2 hK3 hK4
    have h0 : xs = [] := by
      have h2 := hnil (by simpa using hc0)
      have h3 := rows_len (enc := encPo2) (k := 2) (fun _ => rfl) xs
      rw [h2] at h3
      exact List.eq_nil_of_length_eq_zero (by simp at h3; omega)
    subst h0
    exact Hd.ret1 rfl (none, 0) rfl (Ent.sep (.ownNil .same))
  ·
    try simp only [decide_eq_true_eq, decide_eq_false_iff_not, Bool.and_eq_true, Bool.or_eq_true, Bool.and_eq_false_iff, Bool.or_eq_false_iff, Bool.not_eq_true', Bool.not_eq_false', Bool.not_eq_true, Bool.not_eq_false, Int.not_lt, Int.not_le, Decidable.not_not, ne_eq] at hc0
    refine Hd.skip ?_
    refine Hd.toK hK2 ?_
    refine Hd.seq (fun K5 hK5 => ?_)
    refine Hd.region ?_
    refine Hd.bslice (vs := []) rfl (by first | exact bs79_5 .. | kernel_rfl) (fun b5 => ?_)
    refine Hd.ownNil 40 2 (some ⟨b5, 0, none⟩) ?_
    refine Hd.yv (y_move rfl) ?_
    refine Hd.append Try.underlying43 ty40 rfl rfl rfl pkk (by first | exact RdS.rd (Rd.pt pkk (fun j v e => by simpa using e)) rfl | (first | exact RdS.own pkk | exact RdS.mono h (Ent.sep enn))) (by first | (simp [Value.oneCell']; done) | assumption) (by first | (simp only [maxLen]; omega) | assumption) (by omega) (fun ad7 cap7 => ?_)
    refine Hd.yv (y_assign rfl) ?_
    refine Hd.nil ?_
    refine Hd.slots [(2, _)] ⟨rfl, trivial⟩ ?_
    refine Hd.toK hK5 ?_
    refine Hd.ret ?_
    clear hK1 hK2 hK3 hK5
    refine Hd.ret1 rfl (ad7, cap7) (by simp; rfl) (Ent.sep (.eq pkk (own_eq (by omega) (by simp)) enn))
theorem shuffleP_ct (L : List SP) (ad ao : Option Addr) (c co : Nat) (xs : List (Int × Int)) (ord : List Int) (h : RdS L 2 ad xs.length (xs.flatMap encPo2)) (ho : RdS L 1 ao ord.length (ord.map V)) (hb : xs.length ≤ 1000000) (hob : ord.length ≤ 1000000) :
    Ct Try.prog 48 #[.slice ad xs.length c, .slice ao ord.length co] L (fun i : Option Addr × Nat => .slice i.1 xs.length i.2) (fun i => own 40 2 i.1 xs.length i.2 ((shufTo ord xs xs.length).flatMap encPo2) :: L) := by
  refine Ct.of (vs := [.slice ad xs.length c, .slice ao ord.length co]) Try.func48 rfl rfl [(0, .slice ad xs.length c), (1, .slice ao ord.length co)] ⟨rfl, rfl, trivial⟩ ?_
  intro E
  show Hd E 49 _ _ _ _
  refine Hd.seq (fun K1 hK1 => ?_)
  refine Hd.region ?_
  refine Hd.yv (y_assign rfl) ?_
  refine Hd.nil ?_
  refine Hd.slots [(0, _), (1, _)] ⟨rfl, rfl, trivial⟩ ?_
  refine Hd.toK hK1 ?_
  refine Hd.seq (fun K2 hK2 => ?_)
  refine Hd.region ?_
  refine Hd.yv (y_move rfl) ?_
  refine Hd.callE rfl fk79 (cloneP_ct L ad c xs h (by omega)) (Ent.sep enn) ?_
  rintro ⟨a1, c1⟩
  refine Hd.yv (y_assign rfl) ?_
  refine Hd.nil ?_
  refine Hd.slots [(1, _), (5, _)] ⟨rfl, rfl, trivial⟩ ?_
  refine Hd.toK hK2 ?_
  refine Hd.seq (fun K3 hK3 => ?_)
  refine Hd.seq (fun K4 hK4 => ?_)
  refine Hd.region ?_
  refine Hd.yv (y_move rfl) ?_
  refine Hd.yv (y_len Try.underlying43 rfl) ?_
  refine Hd.yv (y_move rfl) ?_
  refine Hd.nil ?_
  refine Hd.slots [(1, _), (5, _), (11, _), (12, _)] ⟨rfl, rfl, rfl, rfl, trivial⟩ ?_
  refine Hd.toK hK4 ?_
  refine Hd.block ?_
  refine Hd.loop (ι := Nat) (fun i => [(1, .slice ao ord.length co), (5, .slice a1 xs.length c1), (11, .int .i64 (xs.length : Int)), (12, .int .i64 (i : Int))])
    (fun i => pu (i ≤ xs.length) :: own 40 2 a1 xs.length c1 ((shufTo ord xs i).flatMap encPo2) :: L) (fun i => xs.length - i) 0 ⟨rfl, rfl, rfl, rfl, trivial⟩ (Ent.sep (.pure (by omega) enn)) ?_
  intro i
  refine Hd.pure (fun hi => ?_)
  have hl := shuf_len ord xs i
  refine Hd.seq (fun K5 hK5 => ?_)
  refine Hd.region ?_
  refine Hd.yv (y_lss rfl rfl) ?_
  refine Hd.nil ?_
  refine Hd.slots [(1, _), (5, _), (11, _), (12, _), (13, _)] ⟨rfl, rfl, rfl, rfl, rfl, trivial⟩ ?_
  refine Hd.toK hK5 ?_
  refine Hd.seq (fun K6 hK6 => ?_)
  refine Hd.cond rfl (fun hc0 => ?_) (fun hc0 => ?_)
  ·
    try simp only [decide_eq_true_eq, decide_eq_false_iff_not, Bool.and_eq_true, Bool.or_eq_true, Bool.and_eq_false_iff, Bool.or_eq_false_iff, Bool.not_eq_true', Bool.not_eq_false', Bool.not_eq_true, Bool.not_eq_false, Int.not_lt, Int.not_le, Decidable.not_not, ne_eq] at hc0
    have hi' : i < xs.length := by omega
    refine Hd.skip ?_
    refine Hd.toK hK6 ?_
    refine Hd.seq (fun K7 hK7 => ?_)
    refine Hd.block ?_
    refine Hd.seq (fun K8 hK8 => ?_)
    refine Hd.region ?_
    refine Hd.yv (y_move rfl) ?_
    refine Hd.yv (y_assign rfl) ?_
    refine Hd.nil ?_
    refine Hd.slots [(1, _), (5, _), (6, _), (11, _), (12, _)] ⟨rfl, rfl, rfl, rfl, rfl, trivial⟩ ?_
    refine Hd.toK hK8 ?_
    refine Hd.seq (fun K9 hK9 => ?_)
    refine Hd.region ?_
    refine Hd.yv (y_move rfl) ?_
    refine Hd.yv (y_len Try.underlying22 rfl) ?_
    refine Hd.yv (y_gtr rfl rfl) ?_
    refine Hd.nil ?_
    refine Hd.slots [(1, _), (5, _), (6, _), (11, _), (12, _), (17, _)] ⟨rfl, rfl, rfl, rfl, rfl, rfl, trivial⟩ ?_
    refine Hd.toK hK9 ?_
    refine Hd.cond rfl (fun hc1 => ?_) (fun hc1 => ?_)
    ·
      try simp only [decide_eq_true_eq, decide_eq_false_iff_not, Bool.and_eq_true, Bool.or_eq_true, Bool.and_eq_false_iff, Bool.or_eq_false_iff, Bool.not_eq_true', Bool.not_eq_false', Bool.not_eq_true, Bool.not_eq_false, Int.not_lt, Int.not_le, Decidable.not_not, ne_eq] at hc1
      obtain ⟨o, hoi⟩ : ∃ o, ord[i % ord.length]? = some o := ⟨_, List.getElem?_eq_getElem (Nat.mod_lt _ (by omega))⟩
      refine Hd.seq (fun K10 hK10 => ?_)
      refine Hd.region ?_
      refine Hd.yv (y_move rfl) ?_
      refine Hd.yv (y_move rfl) ?_
      refine Hd.yv (y_move rfl) ?_
      refine Hd.yv (y_move rfl) ?_
      refine Hd.yv (y_len Try.underlying22 rfl) ?_
      first | (refine Hd.yv (y_remN rfl rfl (by omega)) ?_) | (refine Hd.yv (y_remn rfl rfl (by omega) (by omega)) ?_) | (refine Hd.yv (y_rem rfl rfl (by omega)) ?_)
      have hml : i % ord.length < ord.length := Nat.mod_lt _ (by omega)
      first | (refine Hd.yv (y_idxS Try.underlying22 sz3 rfl rfl (by first | omega | decide)) ?_) | (refine Hd.yv (y_idxR Try.underlying22 sz3 rfl rfl (by first | omega | decide) (by (first | exact RdS.own pkk | exact RdS.mono ho (Ent.sep enn)))) ?_)
      first | (refine Hd.yv (y_load1 ag3 rfl (Rd.pt1 pkk (by (first | (simp [hoi]; rfl) | rfl)))) ?_) | (refine Hd.yv (y_load1 ag3 rfl (Rd.seg1 pkk (by (first | (simp [hoi]; rfl) | rfl)))) ?_) | (refine Hd.yv (y_loadR1 ag3 rfl (by (first | exact RdS.own pkk | exact RdS.mono ho (Ent.sep enn))) (by (first | (simp [hoi]; rfl) | rfl))) ?_)
      refine Hd.yv (y_max rfl rfl) ?_
      refine Hd.yv (y_move rfl) ?_
      refine Hd.yv (y_len Try.underlying43 rfl) ?_
      refine Hd.yv (y_move rfl) ?_
      first | (refine Hd.yv (y_subn rfl rfl (by simp only [InK]; omega)) ?_) | (refine Hd.yv (y_sub rfl rfl) ?_)
      first | (refine Hd.yv (y_remN rfl rfl (by omega)) ?_) | (refine Hd.yv (y_remn rfl rfl (by omega) (by omega)) ?_) | (refine Hd.yv (y_rem rfl rfl (by omega)) ?_)
      first | (refine Hd.yv (y_addn rfl rfl (by simp only [InK]; omega)) ?_) | (refine Hd.yv (y_add rfl rfl) ?_)
      rw [wrapIn (by rw [place_eq hi' hoi]; have hp := place_lt (ord := ord) hi'; simp only [InK]; omega)]
      refine Hd.name (b := (place ord xs.length i : Int)) 32 rfl (place_eq hi' hoi) ?_
      have hp := place_lt (ord := ord) hi'
      have hgp : (shufTo ord xs i)[place ord xs.length i]? = some (shufTo ord xs i)[place ord xs.length i] := List.getElem?_eq_getElem (by omega)
      have hgi : (shufTo ord xs i)[i]? = some (shufTo ord xs i)[i] := List.getElem?_eq_getElem (by omega)
      have hrl := rows_len (enc := encPo2) (k := 2) (fun _ => rfl) (shufTo ord xs i)
      refine Hd.yv (y_assign rfl) ?_
      refine Hd.nil ?_
      refine Hd.slots [(1, _), (5, _), (6, _), (7, _), (11, _), (12, _)] ⟨rfl, rfl, rfl, rfl, rfl, rfl, trivial⟩ ?_
      refine Hd.toK hK10 ?_
      refine Hd.draws mixed ?_
      simp only [List.length, Nat.zero_add, Nat.reduceAdd]
      refine Hd.take 0 rfl (by kernel_rfl) (by kernel_rfl) (by kernel_rfl) (fun _ => y_move rfl) (fun _ _ => rfl) ?_
      refine Hd.take 1 rfl (by kernel_rfl) (by kernel_rfl) (by kernel_rfl) (fun _ => y_move rfl) (fun _ _ => rfl) ?_
      refine Hd.take 2 rfl (by kernel_rfl) (by kernel_rfl) (by kernel_rfl) (fun _ => y_move rfl) (fun _ _ => rfl) ?_
      refine Hd.take 3 rfl (by kernel_rfl) (by kernel_rfl) (by kernel_rfl) (fun _ => y_move rfl) (fun _ _ => rfl) ?_
      refine Hd.take 4 rfl (by kernel_rfl) (by kernel_rfl) (by kernel_rfl) (fun _ => y_move rfl) (fun _ _ => rfl) ?_
      refine Hd.take 5 rfl (by kernel_rfl) (by kernel_rfl) (by kernel_rfl) (fun _ => y_move rfl) (fun _ _ => rfl) ?_
      refine Hd.take 8 rfl (by kernel_rfl) (by kernel_rfl) (by kernel_rfl) (fun _ => y_move rfl) (fun _ _ => rfl) ?_
      refine Hd.take 9 rfl (by kernel_rfl) (by kernel_rfl) (by kernel_rfl) (fun _ => y_move rfl) (fun _ _ => rfl) ?_
      refine Hd.tailAt 13 [6, 7, 10, 11, 12] [13, 14, 15] rfl rfl rfl (by kernel_rfl) ?_
      simp only [pk, List.getElem?_cons_zero, List.getElem?_cons_succ]
      first | (refine Ht.yv (y_idxS Try.underlying43 sz40 rfl rfl (by first | omega | decide)) ?_) | (refine Ht.yv (y_idxR Try.underlying43 sz40 rfl rfl (by first | omega | decide) (by (first | exact RdS.own pkk | exact RdS.mono ho (Ent.sep enn)))) ?_)
      refine Ht.yv (y_loadRn (vs := encPo2 (shufTo ord xs i)[place ord xs.length i]) ag40 rfl (RdS.own pkk) (flat_cells encPo2 2 (fun _ => rfl) hgp) (by exact sz40) (by simp)) ?_
      first | (refine Ht.yv (y_idxS Try.underlying43 sz40 rfl rfl (by first | omega | decide)) ?_) | (refine Ht.yv (y_idxR Try.underlying43 sz40 rfl rfl (by first | omega | decide) (by (first | exact RdS.own pkk | exact RdS.mono ho (Ent.sep enn)))) ?_)
      refine Ht.yv (y_loadRn (vs := encPo2 (shufTo ord xs i)[i]) ag40 rfl (RdS.own pkk) (flat_cells encPo2 2 (fun _ => rfl) hgi) (by exact sz40) (by simp)) ?_
      first | (refine Ht.yv (y_idxS Try.underlying43 sz40 rfl rfl (by first | omega | decide)) ?_) | (refine Ht.yv (y_idxR Try.underlying43 sz40 rfl rfl (by first | omega | decide) (by (first | exact RdS.own pkk | exact RdS.mono ho (Ent.sep enn)))) ?_)
      refine Ht.nil ?_
      refine Hd.storeO (vs := encPo2 (shufTo ord xs i)[place ord xs.length i]) (by exact sz40) rfl rfl rfl (by simp [Value.oneCell']) pkk (by rw [hrl]; simp only [List.length_cons, List.length_nil]; omega) (by exact Nat.zero_lt_succ _) ?_
      rw [rows_set2 (enc := encPo2) (k := 2) (m := 2) (fun _ => rfl) (x := (shufTo ord xs i)[i]) (x' := (shufTo ord xs i)[place ord xs.length i]) (us := encPo2 (shufTo ord xs i)[place ord xs.length i]) (j := 0) (o := i * 2) (o2 := i * 2 + (encPo2 (shufTo ord xs i)[place ord xs.length i]).length) rfl (by decide) rfl hgi (by omega) rfl]
      have hrl2 := rows_len (enc := encPo2) (k := 2) (fun _ => rfl) ((shufTo ord xs i).set i (shufTo ord xs i)[place ord xs.length i])
      rw [List.length_set] at hrl2
      first | (refine Hd.yv (y_idxS Try.underlying43 sz40 rfl rfl (by first | omega | decide)) ?_) | (refine Hd.yv (y_idxR Try.underlying43 sz40 rfl rfl (by first | omega | decide) (by (first | exact RdS.own pkk | exact RdS.mono ho (Ent.sep enn)))) ?_)
      refine Hd.storeO (vs := encPo2 (shufTo ord xs i)[i]) (by exact sz40) rfl rfl rfl (by simp [Value.oneCell']) pkk (by rw [hrl2]; simp only [List.length_cons, List.length_nil]; omega) (by exact Nat.zero_lt_succ _) ?_
      have hgp2 : ((shufTo ord xs i).set i (shufTo ord xs i)[place ord xs.length i])[place ord xs.length i]? = some (((shufTo ord xs i).set i (shufTo ord xs i)[place ord xs.length i])[place ord xs.length i]'(by rw [List.length_set]; omega)) := List.getElem?_eq_getElem _
      rw [rows_set2 (enc := encPo2) (k := 2) (m := 2) (fun _ => rfl) (x' := (shufTo ord xs i)[i]) (us := encPo2 (shufTo ord xs i)[i]) (j := 0) (o := place ord xs.length i * 2) (o2 := place ord xs.length i * 2 + (encPo2 (shufTo ord xs i)[i]).length) rfl (by decide) rfl hgp2 (by omega) rfl]
      refine Hd.nil ?_
      refine Hd.noPn ?_
      refine Hd.slots [(1, _), (5, _), (11, _), (12, _)] ⟨rfl, rfl, rfl, rfl, trivial⟩ ?_
      refine Hd.inB ?_
      refine Hd.toK hK7 ?_
      refine Hd.region ?_
      first | (refine Hd.yv (y_addn rfl rfl (by simp only [InK]; omega)) ?_) | (refine Hd.yv (y_add rfl rfl) ?_)
      refine Hd.yv (y_move rfl) ?_
      refine Hd.nil ?_
      refine Hd.slots [(1, _), (5, _), (11, _), (12, _)] ⟨rfl, rfl, rfl, rfl, trivial⟩ ?_
      clear hK1 hK2 hK3 hK4 hK5 hK6 hK7 hK8 hK9 hK10
      refine Hd.thenN ?_
      refine Hd.again (i + 1) (by omega) ⟨rfl, rfl, rfl, rfl, trivial⟩ (Ent.sep (.pure (by omega) (.eq pkk (own_eq rfl ?_) enn)))
      simp only [shufTo]; rw [if_neg (by intro e; simp [e] at hc1), swp_eq (by omega) (by omega)]
    ·
      try simp only [decide_eq_true_eq, decide_eq_false_iff_not, Bool.and_eq_true, Bool.or_eq_true, Bool.and_eq_false_iff, Bool.or_eq_false_iff, Bool.not_eq_true', Bool.not_eq_false', Bool.not_eq_true, Bool.not_eq_false, Int.not_lt, Int.not_le, Decidable.not_not, ne_eq] at hc1
      refine Hd.skip ?_
      refine Hd.inB ?_
      refine Hd.toK hK7 ?_
      refine Hd.region ?_
      first | (refine Hd.yv (y_addn rfl rfl (by simp only [InK]; omega)) ?_) | (refine Hd.yv (y_add rfl rfl) ?_)
      refine Hd.yv (y_move rfl) ?_
      refine Hd.nil ?_
      refine Hd.slots [(1, _), (5, _), (11, _), (12, _)] ⟨rfl, rfl, rfl, rfl, trivial⟩ ?_
      clear hK1 hK2 hK3 hK4 hK5 hK6 hK7 hK8 hK9
      refine Hd.thenN ?_
      refine Hd.again (i + 1) (by omega) ⟨rfl, rfl, rfl, rfl, trivial⟩ (Ent.sep (.pure (by omega) (.eq pkk (own_eq rfl ?_) enn)))
      simp only [shufTo]; rw [if_pos (List.eq_nil_of_length_eq_zero (by omega))]
  ·
    try simp only [decide_eq_true_eq, decide_eq_false_iff_not, Bool.and_eq_true, Bool.or_eq_true, Bool.and_eq_false_iff, Bool.or_eq_false_iff, Bool.not_eq_true', Bool.not_eq_false', Bool.not_eq_true, Bool.not_eq_false, Int.not_lt, Int.not_le, Decidable.not_not, ne_eq] at hc0
    refine Hd.exit ?_
    refine Hd.thenExit ?_
    refine Hd.thenExit ?_
    refine Hd.inBexit ?_
    refine Hd.toK hK3 ?_
    refine Hd.seq (fun K11 hK11 => ?_)
    refine Hd.region ?_
    refine Hd.yv (y_move rfl) ?_
    refine Hd.yv (y_assign rfl) ?_
    refine Hd.nil ?_
    refine Hd.slots [(4, _)] ⟨rfl, trivial⟩ ?_
    refine Hd.toK hK11 ?_
    refine Hd.ret ?_
    clear hK1 hK2 hK3 hK4 hK5 hK6 hK11
    obtain rfl : i = xs.length := by omega
    exact Hd.ret1 rfl (a1, c1) rfl (Ent.sep enn)
end Sh
end Go.Proofs.Ytbfddabjbkohdaa
namespace Go.Proofs.Ytbfddabjbkohdaa
set_option linter.unusedSimpArgs false
set_option linter.unusedVariables false
set_option linter.unnecessarySimpa false
open Go.RX Fx
namespace Ep
open Wo
set_option maxRecDepth 8000
theorem dueL_len (f : Int → Option IxA) (w : WA) : (dueL f w).length ≤ 96 := Nat.le_trans (dueT_len f w _) (allL_len f w)
theorem encPo_one (p : Int × Int) : ∀ u ∈ encPo p, u.oneCell' = true := by simp [Value.oneCell']
set_option maxHeartbeats 2000000 in
theorem edue_ct (L : List SP) (pb wb mb : Nat) (limit : Int) (f : Int → Option IxA) (m : Nat) (hm : m ≤ 1000000) (w : WA) : Ct Try.prog 14 #[.pointer (some ⟨pb, 0, none⟩)] (EpB pb wb mb limit f m w L) (fun _ : Unit => .bool (!(dueL f w).isEmpty)) (fun _ : Unit => EpB pb wb mb limit f m w L) := by
  refine Ct.ofM (vs := [.pointer (some ⟨pb, 0, none⟩)]) Try.func14 rfl rfl [(0, .pointer (some ⟨pb, 0, none⟩))] (by repeat (first | exact trivial | refine ⟨rfl, ?_⟩)) ?_
  intro E
  show Hd E 8 _ _ _ _
  refine Hd.seq (fun K1 hK1 => ?_)
  refine Hd.region ?_
  refine Hd.alloc zr4 (fun b2 => ?_)
  refine Hd.nil ?_
  refine Hd.slots [(0, _), (2, _)] ⟨rfl, rfl, trivial⟩ ?_
  refine Hd.toK hK1 ?_
  refine Hd.seq (fun K2 hK2 => ?_)
  refine Hd.seq (fun K3 hK3 => ?_)
  refine Hd.region ?_
  refine Hd.yv (y_move rfl) ?_
  refine Hd.callE rfl fk36 (enone_ct _ pb wb mb limit) (Ent.sep enn) ?_
  intro _
  refine Hd.nil ?_
  refine Hd.slots [(0, _), (2, _), (4, _)] ⟨rfl, rfl, rfl, trivial⟩ ?_
  refine Hd.toK hK3 ?_
  refine Hd.condF rfl ?_
  refine Hd.skip ?_
  refine Hd.toK hK2 ?_
  refine Hd.seq (fun K4 hK4 => ?_)
  refine Hd.seq (fun K5 hK5 => ?_)
  refine Hd.region ?_
  refine Hd.yv (y_move rfl) ?_
  refine Hd.callE rfl fk45 (due_ct _ pb) (Ent.sep enn) ?_
  intro px
  refine Hd.nil ?_
  refine Hd.slots [(2, _), (6, _)] ⟨rfl, rfl, trivial⟩ ?_
  refine Hd.toK hK5 ?_
  refine Hd.block ?_
  refine Hd.rangeF (enc := encPA) (S := fun ys => ys = dueL f w) (Sp := fun ys => ys <+: dueL f w)
    (fun pre => pu (pre = []) :: pt b2 [.bool false] 4 :: L) (fun j _ => [pu (j = none ∧ dueL f w ≠ []), pt b2 [.bool true] 4] ++ L)
    rfl (by kernel_rfl) (fun _ => rfl) rfl (due_it px pb wb mb limit f m hm w) (by refine Ent.sep ?_; refine Ent.pure rfl ?_; refine Ent.pick pkk ?_; exact Ent.swap (L := [_, _, _, _])) ?_ ?_ ?_
  ·
    intro E l' R pre p N hR hG
    unfold Rnd
    simp only [List.cons_append, List.nil_append, pz, encPA]
    refine Hd.skip ?_
    refine Hd.thenN ?_
    refine Hd.begin hR pkk ?_
    refine Hd.block ?_
    refine Hd.seq (fun K6 hK6 => ?_)
    refine Hd.region ?_
    first | (refine Hd.store1 sz4 rfl rfl rfl pkk (by first | decide | (simp; done) | (simp; omega)) ?_) | (refine Hd.storeG1 sz4 rfl rfl rfl pkk (by first | decide | (simp; done) | (simp; omega)) ?_) | (refine Hd.storeO1 sz4 rfl rfl rfl pkk (by first | omega | (simp; done) | (simp; omega)) ?_)
    try simp only [List.set_cons_zero, List.set_cons_succ]
    refine Hd.nil ?_
    refine Hd.slots [(2, _)] ⟨rfl, trivial⟩ ?_
    refine Hd.toK hK6 ?_
    refine Hd.ret ?_
    refine Hd.inBret ?_
    clear hK1 hK2 hK3 hK4 hK5 hK6
    refine Hd.reR ?_
    simp only [List.cons_append, List.nil_append]
    have hne : dueL f w ≠ [] := fun e => by rw [e] at hG; have := hG.length_le; simp at this
    exact Ent.sep (.pick pkk (.pure ⟨(by first | trivial | rfl), hne⟩ enn))
  ·
    intro r0 ys hys
    obtain rfl : ys = dueL f w := hys
    simp only [List.cons_append, List.nil_append]
    refine Hd.pure (fun he => ?_)
    try simp only [List.cons_append, List.nil_append]
    refine Hd.inB ?_
    refine Hd.toK hK4 ?_
    refine Hd.seq (fun K7 hK7 => ?_)
    refine Hd.region ?_
    first | (refine Hd.store1 sz4 rfl rfl rfl pkk (by first | decide | (simp; done) | (simp; omega)) ?_) | (refine Hd.storeG1 sz4 rfl rfl rfl pkk (by first | decide | (simp; done) | (simp; omega)) ?_) | (refine Hd.storeO1 sz4 rfl rfl rfl pkk (by first | omega | (simp; done) | (simp; omega)) ?_)
    try simp only [List.set_cons_zero, List.set_cons_succ]
    refine Hd.nil ?_
    refine Hd.slots [(2, _)] ⟨rfl, trivial⟩ ?_
    refine Hd.toK hK7 ?_
    refine Hd.ret ?_
    clear hK1 hK2 hK3 hK4 hK5 hK7
    rw [he]
    exact Hd.retM (fun a fr => Lv.mark pkk (Lv.endC1 fr rfl () ag4 rfl (Rd.pt1 pkk rfl) rfl (Ent.sep enn)))
  ·
    rintro r0_0 (_ | id0) pre0 hG0
    ·
      simp only [List.cons_append, List.nil_append]
      refine Hd.pure (fun hne => ?_)
      try simp only [List.cons_append, List.nil_append]
      refine Hd.ret ?_
      refine Hd.inBret ?_
      refine Hd.thenRet ?_
      clear hK1 hK2 hK3 hK4 hK5
      have e : (dueL f w).isEmpty = false := by cases h : dueL f w with | nil => exact absurd h hne.2 | cons a t => rfl
      rw [e]
      exact Hd.retM (fun a fr => Lv.mark pkk (Lv.endC1 fr rfl () ag4 rfl (Rd.pt1 pkk rfl) rfl (Ent.sep enn)))
    ·
      exact Hd.absurd (by first | exact id | simp)
end Ep
end Go.Proofs.Ytbfddabjbkohdaa
