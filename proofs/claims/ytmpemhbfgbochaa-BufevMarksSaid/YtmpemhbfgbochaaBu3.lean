/-
  Buffered events: Lens, Deadline, Read, Write, Timeouts.
-/
import Derived.Test.YtmpemhbfgbochaaBu2
namespace Go.Proofs.Ytmpemhbfgbochaa
set_option linter.unusedSimpArgs false
set_option linter.unusedVariables false
set_option linter.unnecessarySimpa false
open Go.RX Fx
namespace Bu
open Wo
set_option maxRecDepth 8000
/-- its sides' times are times -/
def TmOk (x : BfA) : Prop := ∀ k, k < 2 → InK .u64 (x.s k).after ∧ InK .u64 (x.s k).at_
theorem dl_in {now a : Int} (hn : InK .u64 now) (ha : InK .u64 a) : InK .u64 (dl now a) := by
  simp only [InK] at *; unfold dl; split <;> omega
theorem atV_in {s : SdA} {k : Nat} {now : Int} (hn : InK .u64 now) (ha : InK .u64 s.after) : InK .u64 (atV s k now) := by
  unfold atV; split
  · exact dl_in hn ha
  · simp [InK]
theorem TmOk.up {x : BfA} (h : TmOk x) {k : Nat} {f : SdA → SdA} (hf : ∀ s, InK .u64 s.after → InK .u64 s.at_ → InK .u64 (f s).after ∧ InK .u64 (f s).at_) : TmOk (x.up k f) := fun j hj => by
  by_cases e : j = k
  · subst e; rw [bup_at]; exact hf _ (h j hj).1 (h j hj).2
  · rw [bup_ne _ _ e]; exact h j hj
theorem tm_new (fd : Int) : TmOk (newB fd) := fun k _ => ⟨by show InK .u64 0; simp [InK], by show InK .u64 18446744073709551615; simp [InK]⟩
/-- the two sides are known -/
theorem buf_close {b wb : Nat} {x x' : BfA} {L : List SP} (h0 : x'.s 0 = x.s 0) (h1 : x'.s 1 = x.s 1) (hf : x'.fd = x.fd) : ∀ h, sep (BfL b wb x 0 L) h → sep (BufP b wb x' :: L) h := fun h s => by
  have s' : sep (BfK b :: BfH b wb x.fd :: SdL b 0 (x.s 0) (SdL b 1 (x.s 1) L)) h := s
  rw [← h0, ← h1, ← hf] at s'
  exact Ent.sep (.ex () (show Ent _ ([BfK b, BfH b wb x'.fd, ChB b (2 + 0 * 8 + 0) (x'.s 0).c, segK b (2 + 0 * 8) 2 (encS (x'.s 0)), ChB b (2 + 1 * 8 + 0) (x'.s 1).c, segK b (2 + 1 * 8) 2 (encS (x'.s 1))] ++ L) from enn)) h s'
theorem buf_put {b wb : Nat} {fd : Int} {s0 s1 : SdA} {x' : BfA} {L : List SP} (h0 : x'.s 0 = s0) (h1 : x'.s 1 = s1) (hf : x'.fd = fd) : ∀ h, sep (BfK b :: BfH b wb fd :: SdL b 0 s0 (SdL b 1 s1 L)) h → sep (BufP b wb x' :: L) h := by
  subst h0; subst h1; subst hf
  exact buf_close rfl rfl rfl
set_option maxHeartbeats 2000000 in
theorem lens_ct (L : List SP) (b wb : Nat) (x : BfA) : Ct Try.prog 17 #[.pointer (some ⟨b, 0, none⟩)] (BufP b wb x :: L) (fun _ : Unit => .tuple #[.int .i64 ((x.s 0).c.length : Int), .int .i64 ((x.s 1).c.length : Int)]) (fun _ : Unit => BufP b wb x :: L) := by
  refine Ct.of (vs := [.pointer (some ⟨b, 0, none⟩)]) Try.func17 rfl rfl [(0, .pointer (some ⟨b, 0, none⟩))] (by repeat (first | exact trivial | refine ⟨rfl, ?_⟩)) ?_
  intro E
  show Hd E 18 _ _ _ _
  refine Hd.buf .here ?_
  refine Hd.seq (fun K1 hK1 => ?_)
  refine Hd.region ?_
  refine Hd.yv (y_assign rfl) ?_
  refine Hd.yv (y_assign rfl) ?_
  refine Hd.nil ?_
  refine Hd.slots [(0, _)] ⟨rfl, trivial⟩ ?_
  refine Hd.toK hK1 ?_
  refine Hd.seq (fun K2 hK2 => ?_)
  refine Hd.seq (fun K3 hK3 => ?_)
  refine Hd.region ?_
  refine Hd.yv (y_move rfl) ?_
  refine Hd.callE rfl fk36 (bnone_ct _ b wb x.fd) (Ent.sep enn) ?_
  intro _
  refine Hd.nil ?_
  refine Hd.slots [(0, _), (5, _)] ⟨rfl, rfl, trivial⟩ ?_
  refine Hd.toK hK3 ?_
  refine Hd.condF rfl ?_
  refine Hd.skip ?_
  refine Hd.toK hK2 ?_
  refine Hd.seq (fun K4 hK4 => ?_)
  refine Hd.drawsH ([]) (fun _ => true) mixed ?_
  simp only [List.length, Nat.zero_add, Nat.reduceAdd]
  refine Hd.takeH 0 rfl (by kernel_rfl) (by kernel_rfl) (by kernel_rfl) (by kernel_rfl) (y_move rfl) (fun _ _ => rfl) (Ent.sep enn) ?_
  refine Hd.takeH 1 rfl (by kernel_rfl) (by kernel_rfl) (by kernel_rfl) (by kernel_rfl) (y_nilp rfl) (fun _ _ => rfl) (Ent.sep enn) ?_
  first | (refine Hd.takeH 2 rfl (by kernel_rfl) (by kernel_rfl) (by kernel_rfl) (by kernel_rfl) (y_field' (q := 2) (ft := 92) Try.underlying94 rfl sz92 rfl rfl) (fun _ _ => rfl) (Ent.sep enn) ?_) | (refine Hd.takeH 2 rfl (by kernel_rfl) (by kernel_rfl) (by kernel_rfl) (by kernel_rfl) (y_fieldR (q := 2) (ft := 92) Try.underlying94 rfl sz92 rfl rfl) (fun _ _ => rfl) (Ent.sep enn) ?_)
  refine Hd.takeH 3 rfl (by kernel_rfl) (by kernel_rfl) (by kernel_rfl) (by kernel_rfl) (y_idxA Try.underlying92 sz91 rfl rfl (by first | omega | decide)) (fun _ _ => rfl) (Ent.sep enn) ?_
  first | (refine Hd.takeH 4 rfl (by kernel_rfl) (by kernel_rfl) (by kernel_rfl) (by kernel_rfl) (y_field' (q := 0) (ft := 89) Try.underlying91 rfl sz89 rfl rfl) (fun _ _ => rfl) (Ent.sep enn) ?_) | (refine Hd.takeH 4 rfl (by kernel_rfl) (by kernel_rfl) (by kernel_rfl) (by kernel_rfl) (y_fieldR (q := 0) (ft := 89) Try.underlying91 rfl sz89 rfl rfl) (fun _ _ => rfl) (Ent.sep enn) ?_)
  refine Hd.takeH 6 rfl (by kernel_rfl) (by kernel_rfl) (by kernel_rfl) (by kernel_rfl) (y_move rfl) (fun _ _ => rfl) (Ent.sep enn) ?_
  refine Hd.takeH 7 rfl (by kernel_rfl) (by kernel_rfl) (by kernel_rfl) (by kernel_rfl) (y_nilp rfl) (fun _ _ => rfl) (Ent.sep enn) ?_
  first | (refine Hd.takeH 8 rfl (by kernel_rfl) (by kernel_rfl) (by kernel_rfl) (by kernel_rfl) (y_field' (q := 2) (ft := 92) Try.underlying94 rfl sz92 rfl rfl) (fun _ _ => rfl) (Ent.sep enn) ?_) | (refine Hd.takeH 8 rfl (by kernel_rfl) (by kernel_rfl) (by kernel_rfl) (by kernel_rfl) (y_fieldR (q := 2) (ft := 92) Try.underlying94 rfl sz92 rfl rfl) (fun _ _ => rfl) (Ent.sep enn) ?_)
  refine Hd.takeH 9 rfl (by kernel_rfl) (by kernel_rfl) (by kernel_rfl) (by kernel_rfl) (y_idxA Try.underlying92 sz91 rfl rfl (by first | omega | decide)) (fun _ _ => rfl) (Ent.sep enn) ?_
  first | (refine Hd.takeH 10 rfl (by kernel_rfl) (by kernel_rfl) (by kernel_rfl) (by kernel_rfl) (y_field' (q := 0) (ft := 89) Try.underlying91 rfl sz89 rfl rfl) (fun _ _ => rfl) (Ent.sep enn) ?_) | (refine Hd.takeH 10 rfl (by kernel_rfl) (by kernel_rfl) (by kernel_rfl) (by kernel_rfl) (y_fieldR (q := 0) (ft := 89) Try.underlying91 rfl sz89 rfl rfl) (fun _ _ => rfl) (Ent.sep enn) ?_)
  refine Hd.onlyH 5 rfl (by kernel_rfl) ?_
  refine Hd.callE rfl fk41 (chLen _ b (2 + 0 * 8 + 0) (x.s 0).c) (Ent.sep enn) ?_
  intro _
  refine Hd.nil ?_
  refine Hd.thenN ?_
  refine Hd.heldK (J := (fun _ => true)) (i := 5) (Ent.sep enn) ?_
  refine Hd.onlyH 11 rfl (by kernel_rfl) ?_
  refine Hd.callE rfl fk41 (chLen _ b (2 + (1 - 0) * 8 + 0) (x.s (1 - 0)).c) (Ent.sep enn) ?_
  intro _
  refine Hd.nil ?_
  refine Hd.thenN ?_
  refine Hd.heldK (J := (fun _ => true)) (i := 11) (Ent.sep enn) ?_
  refine Hd.takeH 12 rfl (by kernel_rfl) (by kernel_rfl) (by kernel_rfl) (by kernel_rfl) (y_assign rfl) (fun _ _ => rfl) (Ent.sep enn) ?_
  refine Hd.takeH 13 rfl (by kernel_rfl) (by kernel_rfl) (by kernel_rfl) (by kernel_rfl) (y_assign rfl) (fun _ _ => rfl) (Ent.sep enn) ?_
  refine Hd.endH (by kernel_rfl) ?_
  refine Hd.slots [(2, _), (3, _)] ⟨rfl, rfl, trivial⟩ ?_
  refine Hd.toK hK4 ?_
  refine Hd.ret ?_
  clear hK1 hK2 hK3 hK4
  exact Hd.ret2 rfl () rfl rfl rfl (fun q s => buf_close rfl rfl rfl q (Ent.sep enn q s))
set_option maxHeartbeats 2000000 in
theorem deadline_ct (L : List SP) (b wb : Nat) (x : BfA) : Ct Try.prog 21 #[.pointer (some ⟨b, 0, none⟩)] (BufP b wb x :: L) (fun _ : Unit => .int .u64 (min (x.s 0).at_ (x.s 1).at_)) (fun _ : Unit => BufP b wb x :: L) := by
  refine Ct.of (vs := [.pointer (some ⟨b, 0, none⟩)]) Try.func21 rfl rfl [(0, .pointer (some ⟨b, 0, none⟩))] (by repeat (first | exact trivial | refine ⟨rfl, ?_⟩)) ?_
  intro E
  show Hd E 18 _ _ _ _
  refine Hd.buf .here ?_
  refine Hd.seq (fun K1 hK1 => ?_)
  refine Hd.region ?_
  refine Hd.yv (y_assign rfl) ?_
  refine Hd.nil ?_
  refine Hd.slots [(0, _)] ⟨rfl, trivial⟩ ?_
  refine Hd.toK hK1 ?_
  refine Hd.seq (fun K2 hK2 => ?_)
  refine Hd.seq (fun K3 hK3 => ?_)
  refine Hd.region ?_
  refine Hd.yv (y_move rfl) ?_
  refine Hd.callE rfl fk36 (bnone_ct _ b wb x.fd) (Ent.sep enn) ?_
  intro _
  refine Hd.nil ?_
  refine Hd.slots [(0, _), (4, _)] ⟨rfl, rfl, trivial⟩ ?_
  refine Hd.toK hK3 ?_
  refine Hd.condF rfl ?_
  refine Hd.skip ?_
  refine Hd.toK hK2 ?_
  refine Hd.seq (fun K4 hK4 => ?_)
  refine Hd.quiet mixed (by kernel_rfl) ?_
  refine Hq.yv (y_move rfl) ?_
  refine Hq.yv (y_nilp rfl) ?_
  first | (refine Hq.yv (y_field' (q := 2) (ft := 92) Try.underlying94 rfl sz92 rfl rfl) ?_) | (refine Hq.yv (y_fieldR (q := 2) (ft := 92) Try.underlying94 rfl sz92 rfl rfl) ?_)
  refine Hq.yv (y_idxA Try.underlying92 sz91 rfl rfl (by first | omega | decide)) ?_
  first | (refine Hq.yv (y_field' (q := 7) (ft := 35) Try.underlying91 rfl sz35 rfl rfl) ?_) | (refine Hq.yv (y_fieldR (q := 7) (ft := 35) Try.underlying91 rfl sz35 rfl rfl) ?_)
  first | (refine Hq.yv (y_load1 ag35 rfl (Rd.pt1 pkk (by (first | rfl)))) ?_) | (refine Hq.yv (y_load1 ag35 rfl (Rd.seg1 pkk (by (first | rfl)))) ?_) | (refine Hq.yv (y_load1 ag35 rfl (Rd.segK1 pkk (by decide) (by (first | rfl)))) ?_) | (refine Hq.yv (y_loadR1 ag35 rfl (by (first | exact RdS.own pkk)) (by (first | rfl))) ?_)
  refine Hq.yv (y_move rfl) ?_
  refine Hq.yv (y_nilp rfl) ?_
  first | (refine Hq.yv (y_field' (q := 2) (ft := 92) Try.underlying94 rfl sz92 rfl rfl) ?_) | (refine Hq.yv (y_fieldR (q := 2) (ft := 92) Try.underlying94 rfl sz92 rfl rfl) ?_)
  refine Hq.yv (y_idxA Try.underlying92 sz91 rfl rfl (by first | omega | decide)) ?_
  first | (refine Hq.yv (y_field' (q := 7) (ft := 35) Try.underlying91 rfl sz35 rfl rfl) ?_) | (refine Hq.yv (y_fieldR (q := 7) (ft := 35) Try.underlying91 rfl sz35 rfl rfl) ?_)
  first | (refine Hq.yv (y_load1 ag35 rfl (Rd.pt1 pkk (by (first | rfl)))) ?_) | (refine Hq.yv (y_load1 ag35 rfl (Rd.seg1 pkk (by (first | rfl)))) ?_) | (refine Hq.yv (y_load1 ag35 rfl (Rd.segK1 pkk (by decide) (by (first | rfl)))) ?_) | (refine Hq.yv (y_loadR1 ag35 rfl (by (first | exact RdS.own pkk)) (by (first | rfl))) ?_)
  refine Hq.yv (y_min rfl rfl) ?_
  refine Hq.yv (y_assign rfl) ?_
  refine Hq.nil ?_
  refine Hd.slots [(2, _)] ⟨rfl, trivial⟩ ?_
  refine Hd.toK hK4 ?_
  refine Hd.ret ?_
  clear hK1 hK2 hK3 hK4
  exact Hd.ret1 rfl () rfl (fun q s => buf_close rfl rfl rfl q (Ent.sep enn q s))
def readA (x : BfA) (n : Int) : List UInt8 := if n < 1 then [] else (x.s 0).c.take n.toNat
def readB (x : BfA) (n : Int) : BfA := if n < 1 then x else x.up 0 fun s => { s with c := s.c.drop n.toNat }
set_option maxHeartbeats 2000000 in
theorem bread_ct (L : List SP) (b wb : Nat) (x : BfA) (n : Int) (hn : n ≤ 9223372036854775807) : Ct Try.prog 16 #[.pointer (some ⟨b, 0, none⟩), .int .i64 n] (BufP b wb x :: L) (fun q_ : Option Addr × Nat => .slice q_.1 (readA x n).length q_.2) (fun q_ : Option Addr × Nat => own 5 1 q_.1 (readA x n).length q_.2 (bsl (readA x n)) :: BufP b wb (readB x n) :: L) := by
  refine Ct.of (vs := [.pointer (some ⟨b, 0, none⟩), .int .i64 n]) Try.func16 rfl rfl [(0, .pointer (some ⟨b, 0, none⟩)), (1, .int .i64 n)] (by repeat (first | exact trivial | refine ⟨rfl, ?_⟩)) ?_
  intro E
  show Hd E 18 _ _ _ _
  refine Hd.buf .here ?_
  refine Hd.seq (fun K1 hK1 => ?_)
  refine Hd.region ?_
  refine Hd.yv (y_assign rfl) ?_
  refine Hd.nil ?_
  refine Hd.slots [(0, _), (1, _)] ⟨rfl, rfl, trivial⟩ ?_
  refine Hd.toK hK1 ?_
  refine Hd.seq (fun K2 hK2 => ?_)
  refine Hd.seq (fun K3 hK3 => ?_)
  refine Hd.region ?_
  refine Hd.yv (y_move rfl) ?_
  refine Hd.callE rfl fk36 (bnone_ct _ b wb x.fd) (Ent.sep enn) ?_
  intro _
  refine Hd.yv (y_move rfl) ?_
  refine Hd.yg rfl rfl (y_move rfl) ?_
  refine Hd.yg rfl rfl (y_lss rfl rfl) ?_
  first | (refine Hd.yv (y_pickT rfl rfl) ?_) | (refine Hd.yv (y_pickF rfl rfl) ?_) | (refine Hd.yv (y_pickb rfl rfl rfl) ?_) | (refine Hd.yv (y_pick rfl rfl rfl) ?_)
  refine Hd.nil ?_
  refine Hd.slots [(0, _), (1, _), (10, _)] ⟨rfl, rfl, rfl, trivial⟩ ?_
  refine Hd.toK hK3 ?_
  refine Hd.cond rfl (fun hc0 => ?_) (fun hc0 => ?_)
  ·
    try simp only [decide_eq_true_eq, decide_eq_false_iff_not, Bool.and_eq_true, Bool.or_eq_true, Bool.and_eq_false_iff, Bool.or_eq_false_iff, Bool.not_eq_true', Bool.not_eq_false', Bool.not_eq_true, Bool.not_eq_false, Int.not_lt, Int.not_le, Decidable.not_not, ne_eq] at hc0
    refine Hd.seq (fun K4 hK4 => ?_)
    refine Hd.region ?_
    refine Hd.yv (y_assign rfl) ?_
    refine Hd.nil ?_
    refine Hd.slots [(4, _)] ⟨rfl, trivial⟩ ?_
    refine Hd.toK hK4 ?_
    refine Hd.ret ?_
    refine Hd.thenRet ?_
    clear hK1 hK2 hK3 hK4
    rw [show readA x n = [] by unfold readA; rw [if_pos hc0], show readB x n = x by unfold readB; rw [if_pos hc0]]
    exact Hd.ret1 rfl (none, 0) rfl (Ent.sep (.ownNil .same) |> fun h q s => h q (buf_close rfl rfl rfl q (Ent.sep enn q s)))
  ·
    try simp only [decide_eq_true_eq, decide_eq_false_iff_not, Bool.and_eq_true, Bool.or_eq_true, Bool.and_eq_false_iff, Bool.or_eq_false_iff, Bool.not_eq_true', Bool.not_eq_false', Bool.not_eq_true, Bool.not_eq_false, Int.not_lt, Int.not_le, Decidable.not_not, ne_eq] at hc0
    refine Hd.skip ?_
    refine Hd.toK hK2 ?_
    refine Hd.seq (fun K5 hK5 => ?_)
    refine Hd.region ?_
    refine Hd.yv (y_move rfl) ?_
    refine Hd.yv (y_nilp rfl) ?_
    first | (refine Hd.yv (y_field' (q := 2) (ft := 92) Try.underlying94 rfl sz92 rfl rfl) ?_) | (refine Hd.yv (y_fieldR (q := 2) (ft := 92) Try.underlying94 rfl sz92 rfl rfl) ?_)
    refine Hd.yv (y_idxA Try.underlying92 sz91 rfl rfl (by first | omega | decide)) ?_
    first | (refine Hd.yv (y_field' (q := 0) (ft := 89) Try.underlying91 rfl sz89 rfl rfl) ?_) | (refine Hd.yv (y_fieldR (q := 0) (ft := 89) Try.underlying91 rfl sz89 rfl rfl) ?_)
    refine Hd.yv (y_move rfl) ?_
    refine Hd.callE rfl fk40 (chTake _ b (2 + 0 * 8 + 0) (x.s 0).c n hn) (Ent.sep enn) ?_
    rintro ⟨ad, c⟩
    dsimp only
    refine Hd.yv (y_assign rfl) ?_
    refine Hd.nil ?_
    refine Hd.slots [(4, _)] ⟨rfl, trivial⟩ ?_
    refine Hd.toK hK5 ?_
    refine Hd.ret ?_
    clear hK1 hK2 hK3 hK5
    rw [show readA x n = (x.s 0).c.take n.toNat by unfold readA; rw [if_neg (by omega)], show readB x n = x.up 0 fun s => { s with c := s.c.drop n.toNat } by unfold readB; rw [if_neg (by omega)]]
    exact Hd.ret1 rfl (ad, c) rfl (fun q s => Ent.sep (show Ent (BufP b wb (x.up 0 fun s => { s with c := s.c.drop n.toNat }) :: own 5 1 ad ((x.s 0).c.take n.toNat).length c (bsl ((x.s 0).c.take n.toNat)) :: L) _ from enn) q (buf_put (fd := x.fd) (x' := x.up 0 fun s => { s with c := s.c.drop n.toNat }) (s0 := { x.s 0 with c := (x.s 0).c.drop n.toNat }) (s1 := x.s 1) rfl rfl rfl q (Ent.sep enn q s)))
/-- bytes are added to the output -/
def wrE (x : BfA) (bs : List UInt8) : Int := addE (x.s 1).c bs
def wrB (x : BfA) (now : Int) (bs : List UInt8) : BfA := if addE (x.s 1).c bs ≠ 0 then x else if (x.s 1).at_ = NV then x.up 1 fun s => setA 1 now { s with c := addA s.c bs } else x.up 1 fun s => { s with c := addA s.c bs }
set_option maxHeartbeats 2000000 in
theorem bwrite_ct (L : List SP) (b wb : Nat) (x : BfA) (ht : TmOk x) (now : Int) (hn : InK .u64 now) (ad : Option Addr) (m cap : Nat) (bs : List UInt8) (hl : bs.length = m) (hD : RdS L 1 ad m (bsl bs)) (hmc : m ≤ cap) (hm : m ≤ 70368744177664) : Ct Try.prog 19 #[.pointer (some ⟨b, 0, none⟩), .int .u64 now, .slice ad m cap] (BufP b wb x :: L) (fun _ : Unit => .int .i64 (wrE x bs)) (fun _ : Unit => BufP b wb (wrB x now bs) :: L) := by
  refine Ct.of (vs := [.pointer (some ⟨b, 0, none⟩), .int .u64 now, .slice ad m cap]) Try.func19 rfl rfl [(0, .pointer (some ⟨b, 0, none⟩)), (1, .int .u64 now), (2, .slice ad m cap)] (by repeat (first | exact trivial | refine ⟨rfl, ?_⟩)) ?_
  intro E
  show Hd E 30 _ _ _ _
  refine Hd.buf .here ?_
  refine Hd.seq (fun K1 hK1 => ?_)
  refine Hd.region ?_
  refine Hd.yv (y_assign rfl) ?_
  refine Hd.nil ?_
  refine Hd.slots [(0, _), (1, _), (2, _)] ⟨rfl, rfl, rfl, trivial⟩ ?_
  refine Hd.toK hK1 ?_
  refine Hd.seq (fun K2 hK2 => ?_)
  refine Hd.seq (fun K3 hK3 => ?_)
  refine Hd.region ?_
  refine Hd.yv (y_move rfl) ?_
  refine Hd.callE rfl fk36 (bnone_ct _ b wb x.fd) (Ent.sep enn) ?_
  intro _
  refine Hd.nil ?_
  refine Hd.slots [(0, _), (1, _), (2, _), (9, _)] ⟨rfl, rfl, rfl, rfl, trivial⟩ ?_
  refine Hd.toK hK3 ?_
  refine Hd.condF rfl ?_
  refine Hd.skip ?_
  refine Hd.toK hK2 ?_
  refine Hd.seq (fun K4 hK4 => ?_)
  refine Hd.seq (fun K5 hK5 => ?_)
  refine Hd.region ?_
  refine Hd.yv (y_move rfl) ?_
  refine Hd.yv (y_nilp rfl) ?_
  first | (refine Hd.yv (y_field' (q := 2) (ft := 92) Try.underlying94 rfl sz92 rfl rfl) ?_) | (refine Hd.yv (y_fieldR (q := 2) (ft := 92) Try.underlying94 rfl sz92 rfl rfl) ?_)
  refine Hd.yv (y_idxA Try.underlying92 sz91 rfl rfl (by first | omega | decide)) ?_
  first | (refine Hd.yv (y_field' (q := 0) (ft := 89) Try.underlying91 rfl sz89 rfl rfl) ?_) | (refine Hd.yv (y_fieldR (q := 0) (ft := 89) Try.underlying91 rfl sz89 rfl rfl) ?_)
  refine Hd.yv (y_move rfl) ?_
  refine Hd.callE rfl fk44 (chAdd _ b (2 + 1 * 8 + 0) (x.s 1).c ad m cap bs hl ?hA hmc hm) (Ent.sep enn) ?_
  case hA => exact RdS.mono hD (Ent.sep enn)
  intro _
  refine Hd.yv (y_assign rfl) ?_
  refine Hd.nil ?_
  refine Hd.slots [(0, _), (1, _), (7, _)] ⟨rfl, rfl, rfl, trivial⟩ ?_
  refine Hd.toK hK5 ?_
  refine Hd.seq (fun K6 hK6 => ?_)
  refine Hd.region ?_
  refine Hd.yv (y_move rfl) ?_
  refine Hd.yv (y_neq rfl rfl) ?_
  refine Hd.nil ?_
  refine Hd.slots [(0, _), (1, _), (7, _), (18, _)] ⟨rfl, rfl, rfl, rfl, trivial⟩ ?_
  refine Hd.toK hK6 ?_
  refine Hd.cond rfl (fun hc1 => ?_) (fun hc1 => ?_)
  ·
    try simp only [decide_eq_true_eq, decide_eq_false_iff_not, Bool.and_eq_true, Bool.or_eq_true, Bool.and_eq_false_iff, Bool.or_eq_false_iff, Bool.not_eq_true', Bool.not_eq_false', Bool.not_eq_true, Bool.not_eq_false, Int.not_lt, Int.not_le, Decidable.not_not, ne_eq] at hc1
    refine Hd.seq (fun K7 hK7 => ?_)
    refine Hd.region ?_
    refine Hd.yv (y_move rfl) ?_
    refine Hd.yv (y_assign rfl) ?_
    refine Hd.nil ?_
    refine Hd.slots [(6, _)] ⟨rfl, trivial⟩ ?_
    refine Hd.toK hK7 ?_
    refine Hd.ret ?_
    refine Hd.thenRet ?_
    clear hK1 hK2 hK3 hK4 hK5 hK6 hK7
    have hne : addA (x.s 1).c bs = (x.s 1).c := by
      unfold addE at hc1; unfold addA
      split at hc1
      · exact absurd rfl hc1
      · rename_i h; rw [if_neg h]
    rw [hne, show wrB x now bs = x by unfold wrB; rw [if_pos hc1]]
    exact Hd.ret1 rfl () rfl (fun q s => buf_close rfl rfl rfl q (Ent.sep enn q s))
  ·
    try simp only [decide_eq_true_eq, decide_eq_false_iff_not, Bool.and_eq_true, Bool.or_eq_true, Bool.and_eq_false_iff, Bool.or_eq_false_iff, Bool.not_eq_true', Bool.not_eq_false', Bool.not_eq_true, Bool.not_eq_false, Int.not_lt, Int.not_le, Decidable.not_not, ne_eq] at hc1
    have hc1' : ¬ addE (x.s 1).c bs ≠ 0 := by omega
    refine Hd.skip ?_
    refine Hd.toK hK4 ?_
    refine Hd.seq (fun K8 hK8 => ?_)
    refine Hd.seq (fun K9 hK9 => ?_)
    refine Hd.region ?_
    refine Hd.yv (y_move rfl) ?_
    refine Hd.yv (y_nilp rfl) ?_
    first | (refine Hd.yv (y_field' (q := 2) (ft := 92) Try.underlying94 rfl sz92 rfl rfl) ?_) | (refine Hd.yv (y_fieldR (q := 2) (ft := 92) Try.underlying94 rfl sz92 rfl rfl) ?_)
    refine Hd.yv (y_idxA Try.underlying92 sz91 rfl rfl (by first | omega | decide)) ?_
    first | (refine Hd.yv (y_field' (q := 7) (ft := 35) Try.underlying91 rfl sz35 rfl rfl) ?_) | (refine Hd.yv (y_fieldR (q := 7) (ft := 35) Try.underlying91 rfl sz35 rfl rfl) ?_)
    first | (refine Hd.yv (y_load1 ag35 rfl (Rd.pt1 pkk (by (first | rfl)))) ?_) | (refine Hd.yv (y_load1 ag35 rfl (Rd.seg1 pkk (by (first | rfl)))) ?_) | (refine Hd.yv (y_load1 ag35 rfl (Rd.segK1 pkk (by decide) (by (first | rfl)))) ?_) | (refine Hd.yv (y_loadR1 ag35 rfl (by (first | exact RdS.own pkk)) (by (first | rfl))) ?_)
    first | (refine Hd.yv (y_eqlT rfl rfl) ?_) | (refine Hd.yv (y_eql rfl rfl) ?_)
    refine Hd.nil ?_
    refine Hd.slots [(0, _), (1, _), (26, _)] ⟨rfl, rfl, rfl, trivial⟩ ?_
    refine Hd.toK hK9 ?_
    refine Hd.cond rfl (fun hc2 => ?_) (fun hc2 => ?_)
    ·
      try simp only [decide_eq_true_eq, decide_eq_false_iff_not, Bool.and_eq_true, Bool.or_eq_true, Bool.and_eq_false_iff, Bool.or_eq_false_iff, Bool.not_eq_true', Bool.not_eq_false', Bool.not_eq_true, Bool.not_eq_false, Int.not_lt, Int.not_le, Decidable.not_not, ne_eq] at hc2
      refine Hd.region ?_
      refine Hd.yv (y_move rfl) ?_
      refine Hd.yv (y_move rfl) ?_
      refine Hd.callE rfl fk39 (set_ct _ b 1 (by omega) { x.s 1 with c := addA (x.s 1).c bs } now hn (ht 1 (by omega)).1) (Ent.sep enn) ?_
      intro _
      refine Hd.nil ?_
      refine Hd.slots [] trivial ?_
      refine Hd.toK hK8 ?_
      refine Hd.seq (fun K10 hK10 => ?_)
      refine Hd.region ?_
      refine Hd.yv (y_assign rfl) ?_
      refine Hd.nil ?_
      refine Hd.slots [(6, _)] ⟨rfl, trivial⟩ ?_
      refine Hd.toK hK10 ?_
      refine Hd.ret ?_
      clear hK1 hK2 hK3 hK4 hK5 hK6 hK8 hK9 hK10
      rw [show wrE x bs = 0 from hc1, show wrB x now bs = x.up 1 fun s => setA 1 now { s with c := addA s.c bs } by unfold wrB; rw [if_neg hc1', if_pos hc2]]
      exact Hd.ret1 rfl () rfl (fun q s => buf_put (fd := x.fd) (x' := x.up 1 fun s => setA 1 now { s with c := addA s.c bs }) (s0 := x.s 0) (s1 := setA 1 now { x.s 1 with c := addA (x.s 1).c bs }) rfl rfl rfl q (Ent.sep enn q s))
    ·
      try simp only [decide_eq_true_eq, decide_eq_false_iff_not, Bool.and_eq_true, Bool.or_eq_true, Bool.and_eq_false_iff, Bool.or_eq_false_iff, Bool.not_eq_true', Bool.not_eq_false', Bool.not_eq_true, Bool.not_eq_false, Int.not_lt, Int.not_le, Decidable.not_not, ne_eq] at hc2
      refine Hd.skip ?_
      refine Hd.toK hK8 ?_
      refine Hd.seq (fun K11 hK11 => ?_)
      refine Hd.region ?_
      refine Hd.yv (y_assign rfl) ?_
      refine Hd.nil ?_
      refine Hd.slots [(6, _)] ⟨rfl, trivial⟩ ?_
      refine Hd.toK hK11 ?_
      refine Hd.ret ?_
      clear hK1 hK2 hK3 hK4 hK5 hK6 hK8 hK9 hK11
      rw [show wrE x bs = 0 from hc1, show wrB x now bs = x.up 1 fun s => { s with c := addA s.c bs } by unfold wrB; rw [if_neg hc1', if_neg hc2]]
      exact Hd.ret1 rfl () rfl (fun q s => buf_put (fd := x.fd) (x' := x.up 1 fun s => { s with c := addA s.c bs }) (s0 := x.s 0) (s1 := { x.s 1 with c := addA (x.s 1).c bs }) rfl rfl rfl q (Ent.sep enn q s))
def tmB (x : BfA) (now r w : Int) : BfA := (x.up 0 fun s => setA 0 now { s with after := r }).up 1 fun s => setA 1 now { s with after := w }
set_option maxHeartbeats 2000000 in
theorem timeouts_ct (L : List SP) (b wb : Nat) (x : BfA) (now r w : Int) (hn : InK .u64 now) (hr : InK .u64 r) (hw : InK .u64 w) : Ct Try.prog 20 #[.pointer (some ⟨b, 0, none⟩), .int .u64 now, .int .u64 r, .int .u64 w] (BufP b wb x :: L) (fun _ : Unit => .int .i64 0) (fun _ : Unit => BufP b wb (tmB x now r w) :: L) := by
  refine Ct.of (vs := [.pointer (some ⟨b, 0, none⟩), .int .u64 now, .int .u64 r, .int .u64 w]) Try.func20 rfl rfl [(0, .pointer (some ⟨b, 0, none⟩)), (1, .int .u64 now), (2, .int .u64 r), (3, .int .u64 w)] (by repeat (first | exact trivial | refine ⟨rfl, ?_⟩)) ?_
  intro E
  show Hd E 29 _ _ _ _
  refine Hd.buf .here ?_
  refine Hd.seq (fun K1 hK1 => ?_)
  refine Hd.region ?_
  refine Hd.yv (y_assign rfl) ?_
  refine Hd.nil ?_
  refine Hd.slots [(0, _), (1, _), (2, _), (3, _)] ⟨rfl, rfl, rfl, rfl, trivial⟩ ?_
  refine Hd.toK hK1 ?_
  refine Hd.seq (fun K2 hK2 => ?_)
  refine Hd.seq (fun K3 hK3 => ?_)
  refine Hd.region ?_
  refine Hd.yv (y_move rfl) ?_
  refine Hd.callE rfl fk36 (bnone_ct _ b wb x.fd) (Ent.sep enn) ?_
  intro _
  refine Hd.nil ?_
  refine Hd.slots [(0, _), (1, _), (2, _), (3, _), (10, _)] ⟨rfl, rfl, rfl, rfl, rfl, trivial⟩ ?_
  refine Hd.toK hK3 ?_
  refine Hd.condF rfl ?_
  refine Hd.skip ?_
  refine Hd.toK hK2 ?_
  refine Hd.seq (fun K4 hK4 => ?_)
  refine Hd.drawsH ([]) (fun j => !(([1000] : List Nat).contains j)) mixed ?_
  simp only [List.length, Nat.zero_add, Nat.reduceAdd]
  refine Hd.takeH 0 rfl (by kernel_rfl) (by kernel_rfl) (by kernel_rfl) (by kernel_rfl) (y_move rfl) (fun _ _ => rfl) (Ent.sep enn) ?_
  refine Hd.takeH 1 rfl (by kernel_rfl) (by kernel_rfl) (by kernel_rfl) (by kernel_rfl) (y_move rfl) (fun _ _ => rfl) (Ent.sep enn) ?_
  refine Hd.takeH 2 rfl (by kernel_rfl) (by kernel_rfl) (by kernel_rfl) (by kernel_rfl) (y_move rfl) (fun _ _ => rfl) (Ent.sep enn) ?_
  refine Hd.takeH 3 rfl (by kernel_rfl) (by kernel_rfl) (by kernel_rfl) (by kernel_rfl) (y_move rfl) (fun _ _ => rfl) (Ent.sep enn) ?_
  refine Hd.takeH 4 rfl (by kernel_rfl) (by kernel_rfl) (by kernel_rfl) (by kernel_rfl) (y_nilp rfl) (fun _ _ => rfl) (Ent.sep enn) ?_
  first | (refine Hd.takeH 5 rfl (by kernel_rfl) (by kernel_rfl) (by kernel_rfl) (by kernel_rfl) (y_field' (q := 2) (ft := 92) Try.underlying94 rfl sz92 rfl rfl) (fun _ _ => rfl) (Ent.sep enn) ?_) | (refine Hd.takeH 5 rfl (by kernel_rfl) (by kernel_rfl) (by kernel_rfl) (by kernel_rfl) (y_fieldR (q := 2) (ft := 92) Try.underlying94 rfl sz92 rfl rfl) (fun _ _ => rfl) (Ent.sep enn) ?_)
  refine Hd.takeH 6 rfl (by kernel_rfl) (by kernel_rfl) (by kernel_rfl) (by kernel_rfl) (y_idxA Try.underlying92 sz91 rfl rfl (by first | omega | decide)) (fun _ _ => rfl) (Ent.sep enn) ?_
  first | (refine Hd.takeH 7 rfl (by kernel_rfl) (by kernel_rfl) (by kernel_rfl) (by kernel_rfl) (y_field' (q := 6) (ft := 35) Try.underlying91 rfl sz35 rfl rfl) (fun _ _ => rfl) (Ent.sep enn) ?_) | (refine Hd.takeH 7 rfl (by kernel_rfl) (by kernel_rfl) (by kernel_rfl) (by kernel_rfl) (y_fieldR (q := 6) (ft := 35) Try.underlying91 rfl sz35 rfl rfl) (fun _ _ => rfl) (Ent.sep enn) ?_)
  refine Hd.takeH 9 rfl (by kernel_rfl) (by kernel_rfl) (by kernel_rfl) (by kernel_rfl) (y_nilp rfl) (fun _ _ => rfl) (Ent.sep enn) ?_
  first | (refine Hd.takeH 10 rfl (by kernel_rfl) (by kernel_rfl) (by kernel_rfl) (by kernel_rfl) (y_field' (q := 2) (ft := 92) Try.underlying94 rfl sz92 rfl rfl) (fun _ _ => rfl) (Ent.sep enn) ?_) | (refine Hd.takeH 10 rfl (by kernel_rfl) (by kernel_rfl) (by kernel_rfl) (by kernel_rfl) (y_fieldR (q := 2) (ft := 92) Try.underlying94 rfl sz92 rfl rfl) (fun _ _ => rfl) (Ent.sep enn) ?_)
  refine Hd.onlyH 8 rfl (by kernel_rfl) ?_
  first | (refine Hd.store1 sz35 rfl rfl rfl pkk (by first | decide | (simp; done) | (simp; omega)) ?_) | (refine Hd.storeG1 sz35 rfl rfl rfl pkk (by first | decide | (simp; done) | (simp; omega)) ?_) | (refine Hd.storeO1 sz35 rfl rfl rfl pkk (by first | omega | (simp; done) | (simp; omega)) ?_) | (refine Hd.storeK1 sz35 rfl rfl rfl pkk (by decide) (by first | decide | (simp; done) | (simp; omega)) ?_)
  try simp only [List.set_cons_zero, List.set_cons_succ]
  refine Hd.nil ?_
  refine Hd.thenN ?_
  refine Hd.heldK (J := (fun j => !(([1000] : List Nat).contains j))) (i := 8) (Ent.sep enn) ?_
  refine Hd.takeH 11 rfl (by kernel_rfl) (by kernel_rfl) (by kernel_rfl) (by kernel_rfl) (y_idxA Try.underlying92 sz91 rfl rfl (by first | omega | decide)) (fun _ _ => rfl) (Ent.sep enn) ?_
  first | (refine Hd.takeH 12 rfl (by kernel_rfl) (by kernel_rfl) (by kernel_rfl) (by kernel_rfl) (y_field' (q := 6) (ft := 35) Try.underlying91 rfl sz35 rfl rfl) (fun _ _ => rfl) (Ent.sep enn) ?_) | (refine Hd.takeH 12 rfl (by kernel_rfl) (by kernel_rfl) (by kernel_rfl) (by kernel_rfl) (y_fieldR (q := 6) (ft := 35) Try.underlying91 rfl sz35 rfl rfl) (fun _ _ => rfl) (Ent.sep enn) ?_)
  refine Hd.onlyH 13 rfl (by kernel_rfl) ?_
  first | (refine Hd.store1 sz35 rfl rfl rfl pkk (by first | decide | (simp; done) | (simp; omega)) ?_) | (refine Hd.storeG1 sz35 rfl rfl rfl pkk (by first | decide | (simp; done) | (simp; omega)) ?_) | (refine Hd.storeO1 sz35 rfl rfl rfl pkk (by first | omega | (simp; done) | (simp; omega)) ?_) | (refine Hd.storeK1 sz35 rfl rfl rfl pkk (by decide) (by first | decide | (simp; done) | (simp; omega)) ?_)
  try simp only [List.set_cons_zero, List.set_cons_succ]
  refine Hd.nil ?_
  refine Hd.thenN ?_
  refine Hd.heldK (J := (fun j => !(([1000] : List Nat).contains j))) (i := 13) (Ent.sep enn) ?_
  refine Hd.endH (by kernel_rfl) ?_
  refine Hd.slots [(0, _), (1, _)] ⟨rfl, rfl, trivial⟩ ?_
  refine Hd.toK hK4 ?_
  refine Hd.seq (fun K5 hK5 => ?_)
  refine Hd.region ?_
  refine Hd.yv (y_move rfl) ?_
  refine Hd.yv (y_move rfl) ?_
  refine Hd.callE rfl fk39 (set_ct _ b 0 (by omega) { x.s 0 with after := r } now hn hr) (Ent.sep enn) ?_
  intro _
  refine Hd.nil ?_
  refine Hd.slots [(0, _), (1, _)] ⟨rfl, rfl, trivial⟩ ?_
  refine Hd.toK hK5 ?_
  refine Hd.seq (fun K6 hK6 => ?_)
  refine Hd.region ?_
  refine Hd.yv (y_move rfl) ?_
  refine Hd.yv (y_move rfl) ?_
  refine Hd.callE rfl fk39 (set_ct _ b 1 (by omega) { x.s 1 with after := w } now hn hw) (Ent.sep enn) ?_
  intro _
  refine Hd.nil ?_
  refine Hd.slots [] trivial ?_
  refine Hd.toK hK6 ?_
  refine Hd.seq (fun K7 hK7 => ?_)
  refine Hd.region ?_
  refine Hd.yv (y_assign rfl) ?_
  refine Hd.nil ?_
  refine Hd.slots [(8, _)] ⟨rfl, trivial⟩ ?_
  refine Hd.toK hK7 ?_
  refine Hd.ret ?_
  clear hK1 hK2 hK3 hK4 hK5 hK6 hK7
  exact Hd.ret1 rfl () rfl (fun q s => buf_put (fd := x.fd) (x' := tmB x now r w) (s0 := setA 0 now { x.s 0 with after := r }) (s1 := setA 1 now { x.s 1 with after := w }) rfl rfl rfl q (Ent.sep enn q s))
end Bu
end Go.Proofs.Ytmpemhbfgbochaa
