/-
  Buffered events: write, Step.
-/
import Derived.Test.YtmpemhbfgbochaaBu6
namespace Go.Proofs.Ytmpemhbfgbochaa
set_option linter.unusedSimpArgs false
set_option linter.unusedVariables false
set_option linter.unnecessarySimpa false
open Go.RX Fx
namespace Bu
open Wo
set_option maxRecDepth 8000
/-- what is offered to the world -/
def offA (s : SdA) (much : Int) : List UInt8 := Bc.cpy s.c 0 (min much 4096)
abbrev putF (now n : Int) (s : SdA) : SdA := setA 1 now { s with c := s.c.drop n.toNat }
/-- behind a write to the world that said r -/
def wrP (σ : StA) (now : Int) (r : (Int × Int) × WA) : StA :=
  if r.1.2 = 0 then ⟨σ.x.up 1 (putF now r.1.1), r.2, { σ.t with o := r.1.1, w := decide (((((σ.x.s 1).c.drop r.1.1.toNat).length : Nat) : Int) ≤ (σ.x.s 1).low) }⟩
  else if r.1.2 = 113 then ⟨σ.x, r.2, σ.t⟩
  else ⟨σ.x.up 1 fun s => stopF s, r.2, stopT σ.t 34 r.1.2⟩
def writeS (σ : StA) (now much : Int) : StA := if (offA (σ.x.s 1) much).length = 0 then σ else wrP σ now (writeR σ.w σ.x.fd (offA (σ.x.s 1) much))
theorem writeR_le (w : WA) (fd : Int) (bs : List UInt8) : (writeR w fd bs).1.1 ≤ (bs.length : Int) := by
  unfold writeR
  repeat' split
  all_goals first
    | (dsimp only; omega)
    | (dsimp only; unfold putN; omega)
set_option maxHeartbeats 2000000 in
theorem write_ct (L : List SP) (b wb bt : Nat) (x : BfA) (w : WA) (t : ToA) (ht : TmOk x) (now much : Int) (hn : InK .u64 now) (hm : InK .i64 much) : Ct Try.prog 43 #[.pointer (some ⟨b, 0, none⟩), .int .u64 now, .int .i64 much, .pointer (some ⟨bt, 0, none⟩)] (BufP b wb x :: WorldP wb w :: ToP bt t :: L) (fun _ : Unit => .tuple #[]) (fun _ : Unit => BufP b wb (writeS ⟨x, w, t⟩ now much).x :: WorldP wb (writeS ⟨x, w, t⟩ now much).w :: ToP bt (writeS ⟨x, w, t⟩ now much).t :: L) := by
  refine Ct.of (vs := [.pointer (some ⟨b, 0, none⟩), .int .u64 now, .int .i64 much, .pointer (some ⟨bt, 0, none⟩)]) Try.func43 rfl rfl [(0, .pointer (some ⟨b, 0, none⟩)), (1, .int .u64 now), (2, .int .i64 much), (3, .pointer (some ⟨bt, 0, none⟩))] (by repeat (first | exact trivial | refine ⟨rfl, ?_⟩)) ?_
  intro E
  show Hd E 71 _ _ _ _
  simp only [InK] at hm
  refine Hd.bufK .here 1 (by omega) ?_
  refine Hd.chB (b := b) (o := 2 + 1 * 8 + 0) pkk (fun hcl => ?_)
  have hol : (offA (x.s 1) much).length ≤ 4096 := by
    unfold offA Bc.cpy
    split
    · simp
    · rw [List.length_take]; omega
  have hS : ¬ (offA (x.s 1) much).length = 0 → writeS ⟨x, w, t⟩ now much = wrP ⟨x, w, t⟩ now (writeR w x.fd (offA (x.s 1) much)) := fun h => if_neg h
  have hle := writeR_le w x.fd (offA (x.s 1) much)
  obtain ⟨⟨⟨n, ec⟩, w'⟩, hrr⟩ : ∃ rr, writeR w x.fd (offA (x.s 1) much) = rr := ⟨_, rfl⟩
  rw [hrr] at hS hle
  dsimp only at hle
  obtain ⟨bs, hbs⟩ : ∃ bs, offA (x.s 1) much = bs := ⟨_, rfl⟩
  rw [hbs] at hS hle hol hrr
  refine Hd.seq (fun K1 hK1 => ?_)
  refine Hd.region ?_
  refine Hd.yv (y_move rfl) ?_
  refine Hd.yv (y_nilp rfl) ?_
  first | (refine Hd.yv (y_field' (q := 2) (ft := 92) Try.underlying94 rfl sz92 rfl rfl) ?_) | (refine Hd.yv (y_fieldR (q := 2) (ft := 92) Try.underlying94 rfl sz92 rfl rfl) ?_)
  refine Hd.yv (y_idxA Try.underlying92 sz91 rfl rfl (by first | omega | decide)) ?_
  refine Hd.yv (y_assign rfl) ?_
  refine Hd.nil ?_
  refine Hd.slots [(0, _), (1, _), (2, _), (3, _), (8, _)] ⟨rfl, rfl, rfl, rfl, rfl, trivial⟩ ?_
  refine Hd.toK hK1 ?_
  refine Hd.seq (fun K2 hK2 => ?_)
  refine Hd.region ?_
  refine Hd.yv (y_move rfl) ?_
  refine Hd.yv (y_nilp rfl) ?_
  first | (refine Hd.yv (y_field' (q := 0) (ft := 89) Try.underlying91 rfl sz89 rfl rfl) ?_) | (refine Hd.yv (y_fieldR (q := 0) (ft := 89) Try.underlying91 rfl sz89 rfl rfl) ?_)
  refine Hd.yv (y_move rfl) ?_
  refine Hd.yv (y_min rfl rfl) ?_
  refine Hd.callE rfl fk63 (chCopy _ b (2 + 1 * 8 + 0) (x.s 1).c 0 (min much 4096) (by simp [InK]) (by simp only [InK]; omega)) (Ent.sep enn) ?_
  rintro ⟨ad, c⟩
  dsimp only
  rw [show Bc.cpy (x.s 1).c 0 (min much 4096) = bs from hbs]
  refine Hd.yv (y_assign rfl) ?_
  refine Hd.nil ?_
  refine Hd.slots [(0, _), (1, _), (3, _), (8, _), (9, _)] ⟨rfl, rfl, rfl, rfl, rfl, trivial⟩ ?_
  refine Hd.toK hK2 ?_
  refine Hd.seq (fun K3 hK3 => ?_)
  refine Hd.seq (fun K4 hK4 => ?_)
  refine Hd.region ?_
  refine Hd.yv (y_move rfl) ?_
  refine Hd.yv (y_len Try.underlying39 rfl) ?_
  first | (refine Hd.yv (y_eqlT rfl rfl) ?_) | (refine Hd.yv (y_eql rfl rfl) ?_)
  refine Hd.nil ?_
  refine Hd.slots [(0, _), (1, _), (3, _), (8, _), (9, _), (24, _)] ⟨rfl, rfl, rfl, rfl, rfl, rfl, trivial⟩ ?_
  refine Hd.toK hK4 ?_
  refine Hd.cond rfl (fun hc0 => ?_) (fun hc0 => ?_)
  ·
    try simp only [decide_eq_true_eq, decide_eq_false_iff_not, Bool.and_eq_true, Bool.or_eq_true, Bool.and_eq_false_iff, Bool.or_eq_false_iff, Bool.not_eq_true', Bool.not_eq_false', Bool.not_eq_true, Bool.not_eq_false, Int.not_lt, Int.not_le, Decidable.not_not, ne_eq] at hc0
    refine Hd.ret ?_
    refine Hd.thenRet ?_
    clear hK1 hK2 hK3 hK4
    rw [show writeS ⟨x, w, t⟩ now much = ⟨x, w, t⟩ from if_pos (by show (offA (x.s 1) much).length = 0; rw [hbs]; omega)]
    exact Hd.ret0 rfl () rfl (fun q s => buf_backK (k := 1) (by omega) q (Ent.sep enn q s))
  ·
    try simp only [decide_eq_true_eq, decide_eq_false_iff_not, Bool.and_eq_true, Bool.or_eq_true, Bool.and_eq_false_iff, Bool.or_eq_false_iff, Bool.not_eq_true', Bool.not_eq_false', Bool.not_eq_true, Bool.not_eq_false, Int.not_lt, Int.not_le, Decidable.not_not, ne_eq] at hc0
    refine Hd.skip ?_
    refine Hd.toK hK3 ?_
    refine Hd.seq (fun K5 hK5 => ?_)
    refine Hd.ownCap pkk (fun hmc => ?_)
    refine Hd.drawsH ([BfH b wb x.fd]) (fun _ => true) mixed ?_
    simp only [List.length, Nat.zero_add, Nat.reduceAdd]
    refine Hd.takeH 0 rfl (by kernel_rfl) (by kernel_rfl) (by kernel_rfl) (by kernel_rfl) (y_move rfl) (fun _ _ => rfl) (Ent.sep enn) ?_
    refine Hd.takeH 1 rfl (by kernel_rfl) (by kernel_rfl) (by kernel_rfl) (by kernel_rfl) (y_nilp rfl) (fun _ _ => rfl) (Ent.sep enn) ?_
    first | (refine Hd.takeH 2 rfl (by kernel_rfl) (by kernel_rfl) (by kernel_rfl) (by kernel_rfl) (y_field' (q := 0) (ft := 25) Try.underlying94 rfl sz25 rfl rfl) (fun _ _ => rfl) (Ent.sep enn) ?_) | (refine Hd.takeH 2 rfl (by kernel_rfl) (by kernel_rfl) (by kernel_rfl) (by kernel_rfl) (y_fieldR (q := 0) (ft := 25) Try.underlying94 rfl sz25 rfl rfl) (fun _ _ => rfl) (Ent.sep enn) ?_)
    first | (refine Hd.takeH 3 rfl (by kernel_rfl) (by kernel_rfl) (by kernel_rfl) (by kernel_rfl) (y_load1 ag25 rfl (Rd.pt1 pkk (by (first | rfl)))) (fun _ _ => rfl) (Ent.sep enn) ?_) | (refine Hd.takeH 3 rfl (by kernel_rfl) (by kernel_rfl) (by kernel_rfl) (by kernel_rfl) (y_load1 ag25 rfl (Rd.seg1 pkk (by (first | rfl)))) (fun _ _ => rfl) (Ent.sep enn) ?_) | (refine Hd.takeH 3 rfl (by kernel_rfl) (by kernel_rfl) (by kernel_rfl) (by kernel_rfl) (y_load1 ag25 rfl (Rd.segK1 pkk (by decide) (by (first | rfl)))) (fun _ _ => rfl) (Ent.sep enn) ?_) | (refine Hd.takeH 3 rfl (by kernel_rfl) (by kernel_rfl) (by kernel_rfl) (by kernel_rfl) (y_loadR1 ag25 rfl (by (first | exact RdS.own pkk)) (by (first | rfl))) (fun _ _ => rfl) (Ent.sep enn) ?_)
    refine Hd.takeH 4 rfl (by kernel_rfl) (by kernel_rfl) (by kernel_rfl) (by kernel_rfl) (y_move rfl) (fun _ _ => rfl) (Ent.sep enn) ?_
    refine Hd.takeH 5 rfl (by kernel_rfl) (by kernel_rfl) (by kernel_rfl) (by kernel_rfl) (y_nilp rfl) (fun _ _ => rfl) (Ent.sep enn) ?_
    first | (refine Hd.takeH 6 rfl (by kernel_rfl) (by kernel_rfl) (by kernel_rfl) (by kernel_rfl) (y_field' (q := 1) (ft := 3) Try.underlying94 rfl sz3 rfl rfl) (fun _ _ => rfl) (Ent.sep enn) ?_) | (refine Hd.takeH 6 rfl (by kernel_rfl) (by kernel_rfl) (by kernel_rfl) (by kernel_rfl) (y_fieldR (q := 1) (ft := 3) Try.underlying94 rfl sz3 rfl rfl) (fun _ _ => rfl) (Ent.sep enn) ?_)
    first | (refine Hd.takeH 7 rfl (by kernel_rfl) (by kernel_rfl) (by kernel_rfl) (by kernel_rfl) (y_load1 ag3 rfl (Rd.pt1 pkk (by (first | rfl)))) (fun _ _ => rfl) (Ent.sep enn) ?_) | (refine Hd.takeH 7 rfl (by kernel_rfl) (by kernel_rfl) (by kernel_rfl) (by kernel_rfl) (y_load1 ag3 rfl (Rd.seg1 pkk (by (first | rfl)))) (fun _ _ => rfl) (Ent.sep enn) ?_) | (refine Hd.takeH 7 rfl (by kernel_rfl) (by kernel_rfl) (by kernel_rfl) (by kernel_rfl) (y_load1 ag3 rfl (Rd.segK1 pkk (by decide) (by (first | rfl)))) (fun _ _ => rfl) (Ent.sep enn) ?_) | (refine Hd.takeH 7 rfl (by kernel_rfl) (by kernel_rfl) (by kernel_rfl) (by kernel_rfl) (y_loadR1 ag3 rfl (by (first | exact RdS.own pkk)) (by (first | rfl))) (fun _ _ => rfl) (Ent.sep enn) ?_)
    refine Hd.takeH 8 rfl (by kernel_rfl) (by kernel_rfl) (by kernel_rfl) (by kernel_rfl) (y_move rfl) (fun _ _ => rfl) (Ent.sep enn) ?_
    refine Hd.onlyH 9 rfl (by kernel_rfl) ?_
    refine Hd.callE rfl fk24 (wwrite_ct _ wb w x.fd ad bs.length c bs rfl ?hA (by omega) hmc) (Ent.sep enn) ?_
    case hA => exact RdS.own (ad := ad) pkk
    intro _
    rw [hrr]
    dsimp only
    refine Hd.nil ?_
    refine Hd.thenN ?_
    refine Hd.heldK (J := (fun _ => true)) (i := 9) (Ent.sep enn) ?_
    refine Hd.takeH 10 rfl (by kernel_rfl) (by kernel_rfl) (by kernel_rfl) (by kernel_rfl) (y_move rfl) (fun _ _ => rfl) (Ent.sep enn) ?_
    refine Hd.takeH 11 rfl (by kernel_rfl) (by kernel_rfl) (by kernel_rfl) (by kernel_rfl) (y_extract rfl rfl) (fun _ _ => rfl) (Ent.sep enn) ?_
    refine Hd.takeH 12 rfl (by kernel_rfl) (by kernel_rfl) (by kernel_rfl) (by kernel_rfl) (y_extract rfl rfl) (fun _ _ => rfl) (Ent.sep enn) ?_
    refine Hd.takeH 13 rfl (by kernel_rfl) (by kernel_rfl) (by kernel_rfl) (by kernel_rfl) (y_assign rfl) (fun _ _ => rfl) (Ent.sep enn) ?_
    refine Hd.takeH 14 rfl (by kernel_rfl) (by kernel_rfl) (by kernel_rfl) (by kernel_rfl) (y_assign rfl) (fun _ _ => rfl) (Ent.sep enn) ?_
    refine Hd.endH (by kernel_rfl) ?_
    refine Hd.slots [(0, _), (1, _), (3, _), (8, _), (10, _), (11, _)] ⟨rfl, rfl, rfl, rfl, rfl, rfl, trivial⟩ ?_
    refine Hd.toK hK5 ?_
    refine Hd.seq (fun K6 hK6 => ?_)
    refine Hd.region ?_
    refine Hd.yv (y_move rfl) ?_
    refine Hd.nil ?_
    refine Hd.slots [(0, _), (1, _), (3, _), (8, _), (10, _), (11, _), (38, _)] ⟨rfl, rfl, rfl, rfl, rfl, rfl, rfl, trivial⟩ ?_
    refine Hd.toK hK6 ?_
    refine Hd.block ?_
    refine Hd.seq (fun K7 hK7 => ?_)
    refine Hd.region ?_
    first | (refine Hd.yv (y_eqlT rfl rfl) ?_) | (refine Hd.yv (y_eql rfl rfl) ?_)
    refine Hd.yv (y_assign rfl) ?_
    refine Hd.nil ?_
    refine Hd.slots [(0, _), (1, _), (3, _), (8, _), (10, _), (11, _), (38, _), (43, _)] ⟨rfl, rfl, rfl, rfl, rfl, rfl, rfl, rfl, trivial⟩ ?_
    refine Hd.toK hK7 ?_
    refine Hd.cond rfl (fun hc1 => ?_) (fun hc1 => ?_)
    ·
      try simp only [decide_eq_true_eq, decide_eq_false_iff_not, Bool.and_eq_true, Bool.or_eq_true, Bool.and_eq_false_iff, Bool.or_eq_false_iff, Bool.not_eq_true', Bool.not_eq_false', Bool.not_eq_true, Bool.not_eq_false, Int.not_lt, Int.not_le, Decidable.not_not, ne_eq] at hc1
      refine Hd.seq (fun K8 hK8 => ?_)
      refine Hd.region ?_
      refine Hd.yv (y_move rfl) ?_
      refine Hd.yv (y_nilp rfl) ?_
      first | (refine Hd.yv (y_field' (q := 0) (ft := 89) Try.underlying91 rfl sz89 rfl rfl) ?_) | (refine Hd.yv (y_fieldR (q := 0) (ft := 89) Try.underlying91 rfl sz89 rfl rfl) ?_)
      refine Hd.yv (y_move rfl) ?_
      refine Hd.callE rfl fk64 (chDrain _ b (2 + 1 * 8 + 0) (x.s 1).c n (by omega)) (Ent.sep enn) ?_
      intro _
      refine Hd.nil ?_
      refine Hd.slots [(0, _), (1, _), (3, _), (8, _), (10, _)] ⟨rfl, rfl, rfl, rfl, rfl, trivial⟩ ?_
      refine Hd.toK hK8 ?_
      refine Hd.seq (fun K9 hK9 => ?_)
      refine Hd.region ?_
      refine Hd.yv (y_move rfl) ?_
      refine Hd.yv (y_move rfl) ?_
      refine Hd.yv (y_nilp rfl) ?_
      first | (refine Hd.yv (y_field' (q := 5) (ft := 3) Try.underlying49 rfl sz3 rfl rfl) ?_) | (refine Hd.yv (y_fieldR (q := 5) (ft := 3) Try.underlying49 rfl sz3 rfl rfl) ?_)
      first | (refine Hd.store1 sz3 rfl rfl rfl pkk (by first | decide | (simp; done) | (simp; omega)) ?_) | (refine Hd.storeG1 sz3 rfl rfl rfl pkk (by first | decide | (simp; done) | (simp; omega)) ?_) | (refine Hd.storeO1 sz3 rfl rfl rfl pkk (by first | omega | (simp; done) | (simp; omega)) ?_) | (refine Hd.storeK1 sz3 rfl rfl rfl pkk (by decide) (by first | decide | (simp; done) | (simp; omega)) ?_)
      try simp only [List.set_cons_zero, List.set_cons_succ]
      refine Hd.nil ?_
      refine Hd.slots [(0, _), (1, _), (3, _), (8, _)] ⟨rfl, rfl, rfl, rfl, trivial⟩ ?_
      refine Hd.toK hK9 ?_
      refine Hd.seq (fun K10 hK10 => ?_)
      refine Hd.drawsH ([segK b (2 + 1 * 8) 2 (encS (x.s 1))]) (fun j => !(([1000] : List Nat).contains j)) mixed ?_
      simp only [List.length, Nat.zero_add, Nat.reduceAdd]
      refine Hd.takeH 0 rfl (by kernel_rfl) (by kernel_rfl) (by kernel_rfl) (by kernel_rfl) (y_move rfl) (fun _ _ => rfl) (Ent.sep enn) ?_
      refine Hd.takeH 1 rfl (by kernel_rfl) (by kernel_rfl) (by kernel_rfl) (by kernel_rfl) (y_move rfl) (fun _ _ => rfl) (Ent.sep enn) ?_
      refine Hd.takeH 2 rfl (by kernel_rfl) (by kernel_rfl) (by kernel_rfl) (by kernel_rfl) (y_nilp rfl) (fun _ _ => rfl) (Ent.sep enn) ?_
      first | (refine Hd.takeH 3 rfl (by kernel_rfl) (by kernel_rfl) (by kernel_rfl) (by kernel_rfl) (y_field' (q := 0) (ft := 89) Try.underlying91 rfl sz89 rfl rfl) (fun _ _ => rfl) (Ent.sep enn) ?_) | (refine Hd.takeH 3 rfl (by kernel_rfl) (by kernel_rfl) (by kernel_rfl) (by kernel_rfl) (y_fieldR (q := 0) (ft := 89) Try.underlying91 rfl sz89 rfl rfl) (fun _ _ => rfl) (Ent.sep enn) ?_)
      refine Hd.takeH 5 rfl (by kernel_rfl) (by kernel_rfl) (by kernel_rfl) (by kernel_rfl) (y_move rfl) (fun _ _ => rfl) (Ent.sep enn) ?_
      refine Hd.takeH 6 rfl (by kernel_rfl) (by kernel_rfl) (by kernel_rfl) (by kernel_rfl) (y_nilp rfl) (fun _ _ => rfl) (Ent.sep enn) ?_
      first | (refine Hd.takeH 7 rfl (by kernel_rfl) (by kernel_rfl) (by kernel_rfl) (by kernel_rfl) (y_field' (q := 4) (ft := 3) Try.underlying91 rfl sz3 rfl rfl) (fun _ _ => rfl) (Ent.sep enn) ?_) | (refine Hd.takeH 7 rfl (by kernel_rfl) (by kernel_rfl) (by kernel_rfl) (by kernel_rfl) (y_fieldR (q := 4) (ft := 3) Try.underlying91 rfl sz3 rfl rfl) (fun _ _ => rfl) (Ent.sep enn) ?_)
      first | (refine Hd.takeH 8 rfl (by kernel_rfl) (by kernel_rfl) (by kernel_rfl) (by kernel_rfl) (y_load1 ag3 rfl (Rd.pt1 pkk (by (first | rfl)))) (fun _ _ => rfl) (Ent.sep enn) ?_) | (refine Hd.takeH 8 rfl (by kernel_rfl) (by kernel_rfl) (by kernel_rfl) (by kernel_rfl) (y_load1 ag3 rfl (Rd.seg1 pkk (by (first | rfl)))) (fun _ _ => rfl) (Ent.sep enn) ?_) | (refine Hd.takeH 8 rfl (by kernel_rfl) (by kernel_rfl) (by kernel_rfl) (by kernel_rfl) (y_load1 ag3 rfl (Rd.segK1 pkk (by decide) (by (first | rfl)))) (fun _ _ => rfl) (Ent.sep enn) ?_) | (refine Hd.takeH 8 rfl (by kernel_rfl) (by kernel_rfl) (by kernel_rfl) (by kernel_rfl) (y_loadR1 ag3 rfl (by (first | exact RdS.own pkk)) (by (first | rfl))) (fun _ _ => rfl) (Ent.sep enn) ?_)
      refine Hd.onlyH 4 rfl (by kernel_rfl) ?_
      refine Hd.callE rfl fk41 (chLen _ b (2 + 1 * 8 + 0) ((x.s 1).c.drop n.toNat)) (Ent.sep enn) ?_
      intro _
      refine Hd.nil ?_
      refine Hd.thenN ?_
      refine Hd.heldK (J := (fun j => !(([1000] : List Nat).contains j))) (i := 4) (Ent.sep enn) ?_
      refine Hd.takeH 9 rfl (by kernel_rfl) (by kernel_rfl) (by kernel_rfl) (by kernel_rfl) (y_leq rfl rfl) (fun _ _ => rfl) (Ent.sep enn) ?_
      refine Hd.takeH 10 rfl (by kernel_rfl) (by kernel_rfl) (by kernel_rfl) (by kernel_rfl) (y_nilp rfl) (fun _ _ => rfl) (Ent.sep enn) ?_
      first | (refine Hd.takeH 11 rfl (by kernel_rfl) (by kernel_rfl) (by kernel_rfl) (by kernel_rfl) (y_field' (q := 1) (ft := 4) Try.underlying49 rfl sz4 rfl rfl) (fun _ _ => rfl) (Ent.sep enn) ?_) | (refine Hd.takeH 11 rfl (by kernel_rfl) (by kernel_rfl) (by kernel_rfl) (by kernel_rfl) (y_fieldR (q := 1) (ft := 4) Try.underlying49 rfl sz4 rfl rfl) (fun _ _ => rfl) (Ent.sep enn) ?_)
      refine Hd.onlyH 12 rfl (by kernel_rfl) ?_
      first | (refine Hd.store1 sz4 rfl rfl rfl pkk (by first | decide | (simp; done) | (simp; omega)) ?_) | (refine Hd.storeG1 sz4 rfl rfl rfl pkk (by first | decide | (simp; done) | (simp; omega)) ?_) | (refine Hd.storeO1 sz4 rfl rfl rfl pkk (by first | omega | (simp; done) | (simp; omega)) ?_) | (refine Hd.storeK1 sz4 rfl rfl rfl pkk (by decide) (by first | decide | (simp; done) | (simp; omega)) ?_)
      try simp only [List.set_cons_zero, List.set_cons_succ]
      refine Hd.nil ?_
      refine Hd.thenN ?_
      refine Hd.heldK (J := (fun j => !(([1000] : List Nat).contains j))) (i := 12) (Ent.sep enn) ?_
      refine Hd.endH (by kernel_rfl) ?_
      refine Hd.slots [(0, _), (1, _)] ⟨rfl, rfl, trivial⟩ ?_
      refine Hd.toK hK10 ?_
      refine Hd.region ?_
      refine Hd.yv (y_move rfl) ?_
      refine Hd.yv (y_move rfl) ?_
      refine Hd.callE rfl fk39 (set_ct _ b 1 (by omega) { x.s 1 with c := (x.s 1).c.drop n.toNat } now hn (ht 1 (by omega)).1) (Ent.sep enn) ?_
      intro _
      refine Hd.nil ?_
      refine Hd.slots [] trivial ?_
      refine Hd.inB ?_
      clear hK1 hK2 hK3 hK4 hK5 hK6 hK7 hK8 hK9 hK10
      have hne : ¬ bs.length = 0 := by omega
      rw [show writeS ⟨x, w, t⟩ now much = ⟨x.up 1 (putF now n), w', { t with o := n, w := decide (((((x.s 1).c.drop n.toNat).length : Nat) : Int) ≤ (x.s 1).low) }⟩ from (hS hne).trans (if_pos hc1)]
      refine Hd.end0 rfl () rfl (fun q s => buf_putK (k := 1) (x := x) (s' := putF now n (x.s 1)) (by omega) q ?_)
      rw [bfL_up (by omega)]
      exact Ent.sep (.pick pkk (.pick pkk (.pick pkk (.pick pkk (.pick pkk (.pick pkk (.pick pkk (.eq pkk (pt_eq (by rfl)) enn)))))))) q s
    ·
      try simp only [decide_eq_true_eq, decide_eq_false_iff_not, Bool.and_eq_true, Bool.or_eq_true, Bool.and_eq_false_iff, Bool.or_eq_false_iff, Bool.not_eq_true', Bool.not_eq_false', Bool.not_eq_true, Bool.not_eq_false, Int.not_lt, Int.not_le, Decidable.not_not, ne_eq] at hc1
      refine Hd.seq (fun K11 hK11 => ?_)
      refine Hd.region ?_
      first | (refine Hd.yv (y_eqlT rfl rfl) ?_) | (refine Hd.yv (y_eql rfl rfl) ?_)
      refine Hd.yv (y_assign rfl) ?_
      refine Hd.nil ?_
      refine Hd.slots [(3, _), (8, _), (11, _), (69, _)] ⟨rfl, rfl, rfl, rfl, trivial⟩ ?_
      refine Hd.toK hK11 ?_
      refine Hd.cond rfl (fun hc2 => ?_) (fun hc2 => ?_)
      ·
        try simp only [decide_eq_true_eq, decide_eq_false_iff_not, Bool.and_eq_true, Bool.or_eq_true, Bool.and_eq_false_iff, Bool.or_eq_false_iff, Bool.not_eq_true', Bool.not_eq_false', Bool.not_eq_true, Bool.not_eq_false, Int.not_lt, Int.not_le, Decidable.not_not, ne_eq] at hc2
        refine Hd.skip ?_
        refine Hd.inB ?_
        clear hK1 hK2 hK3 hK4 hK5 hK6 hK7 hK11
        have hne : ¬ bs.length = 0 := by omega
        rw [show writeS ⟨x, w, t⟩ now much = ⟨x, w', t⟩ from (hS hne).trans ((if_neg hc1).trans (if_pos hc2))]
        exact Hd.end0 rfl () rfl (fun q s => buf_backK (k := 1) (by omega) q (Ent.sep enn q s))
      ·
        try simp only [decide_eq_true_eq, decide_eq_false_iff_not, Bool.and_eq_true, Bool.or_eq_true, Bool.and_eq_false_iff, Bool.or_eq_false_iff, Bool.not_eq_true', Bool.not_eq_false', Bool.not_eq_true, Bool.not_eq_false, Int.not_lt, Int.not_le, Decidable.not_not, ne_eq] at hc2
        refine Hd.region ?_
        refine Hd.yv (y_move rfl) ?_
        refine Hd.yv (y_move rfl) ?_
        refine Hd.yv (y_move rfl) ?_
        refine Hd.callE rfl fk62 (stop_ct _ b 1 bt (x.s 1) t 34 ec) (Ent.sep enn) ?_
        intro _
        refine Hd.nil ?_
        refine Hd.slots [] trivial ?_
        refine Hd.inB ?_
        clear hK1 hK2 hK3 hK4 hK5 hK6 hK7 hK11
        have hne : ¬ bs.length = 0 := by omega
        rw [show writeS ⟨x, w, t⟩ now much = ⟨x.up 1 fun s => stopF s, w', stopT t 34 ec⟩ from (hS hne).trans ((if_neg hc1).trans (if_neg hc2))]
        refine Hd.end0 rfl () rfl (fun q s => buf_putK (k := 1) (x := x) (s' := stopF (x.s 1)) (by omega) q ?_)
        rw [bfL_up (by omega)]
        exact Ent.sep enn q s
end Bu
end Go.Proofs.Ytmpemhbfgbochaa
