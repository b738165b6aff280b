/-
  Buffered events: read, write, Step.
-/
import Derived.Test.YtmpemhbfgbochaaBu5
import Derived.Test.YtmpemhbfgbochaaRxW
namespace Go.Proofs.Ytmpemhbfgbochaa
set_option linter.unusedSimpArgs false
set_option linter.unusedVariables false
set_option linter.unnecessarySimpa false
open Go.RX Fx
namespace Bu
open Wo
set_option maxRecDepth 8000
/-- how many bytes may be read -/
def rdN (s : SdA) (most : Int) : Int := if s.high > 0 then min (min (min most 4096) (1048576 - (s.c.length : Int))) (s.high - (s.c.length : Int)) else min (min most 4096) (1048576 - (s.c.length : Int))
structure StA where
  x : BfA
  w : WA
  t : ToA
abbrev getF (now : Int) (bs : List UInt8) (s : SdA) : SdA := setA 0 now { s with c := addA s.c bs }
/-- behind a read of the world that said r -/
def rdP (σ : StA) (now : Int) (r : (List UInt8 × Bool × Int) × WA) : StA :=
  if r.1.2.1 = true then ⟨σ.x.up 0 fun s => stopF s, r.2, stopT σ.t 17 0⟩
  else if r.1.2.2 = 113 then ⟨σ.x, r.2, σ.t⟩
  else if r.1.2.2 ≠ 0 then ⟨σ.x.up 0 fun s => stopF s, r.2, stopT σ.t 33 r.1.2.2⟩
  else ⟨σ.x.up 0 (getF now r.1.1), r.2, { σ.t with i := (r.1.1.length : Int), r := decide (((addA (σ.x.s 0).c r.1.1).length : Int) ≥ (σ.x.s 0).low) }⟩
def readS (σ : StA) (now most : Int) : StA := if rdN (σ.x.s 0) most < 1 then σ else rdP σ now (readR σ.w σ.x.fd (rdN (σ.x.s 0) most))
theorem readR_len (w : WA) (fd n : Int) : (readR w fd n).1.1.length ≤ 65536 ∨ ¬ WOk w := by
  by_cases h : WOk w
  · left
    unfold readR
    split
    · simp
    · rename_i m k hat
      split
      · simp
      · rename_i x hx
        have hwf := h.wf x (List.mem_of_getElem? hx)
        obtain ⟨_, _, hk, _⟩ := h.at_lt hat
        have h1 := hwf.le k hk
        have h2 := hwf.cap
        repeat' split
        all_goals first
          | (simp; done)
          | (rw [List.length_take]; omega)
  · right; exact h
theorem Hd.worldOk {E : World} {n : Nat} {ds : List Deferred} {st : List (Nat × Value)} {L L' : List SP} {K : Act → World → Prop} {wb : Nat} {w : WA} (p : Pick L (WorldP wb w) L') (h : WOk w → Hd E n ds st L K) : Hd E n ds st L K := fun a v f s => by
  refine h ?_ a v f s
  obtain ⟨h1, s1, i, x⟩ := sep.one p s.2.2.2
  exact (sep_pure (p := WOk w ∧ i.rs.map Prod.snd = w.ws) x).1.1
set_option maxHeartbeats 2000000 in
theorem read_ct (L : List SP) (b wb bt : Nat) (x : BfA) (w : WA) (t : ToA) (ht : TmOk x) (now most : Int) (hn : InK .u64 now) (hm : most ≤ 9223372036854775807) (hh : InK .i64 (x.s 0).high) : Ct Try.prog 42 #[.pointer (some ⟨b, 0, none⟩), .int .u64 now, .int .i64 most, .pointer (some ⟨bt, 0, none⟩)] (BufP b wb x :: WorldP wb w :: ToP bt t :: L) (fun _ : Unit => .tuple #[]) (fun _ : Unit => BufP b wb (readS ⟨x, w, t⟩ now most).x :: WorldP wb (readS ⟨x, w, t⟩ now most).w :: ToP bt (readS ⟨x, w, t⟩ now most).t :: L) := by
  refine Ct.of (vs := [.pointer (some ⟨b, 0, none⟩), .int .u64 now, .int .i64 most, .pointer (some ⟨bt, 0, none⟩)]) Try.func42 rfl rfl [(0, .pointer (some ⟨b, 0, none⟩)), (1, .int .u64 now), (2, .int .i64 most), (3, .pointer (some ⟨bt, 0, none⟩))] (by repeat (first | exact trivial | refine ⟨rfl, ?_⟩)) ?_
  intro E
  show Hd E 96 _ _ _ _
  simp only [InK] at hh
  refine Hd.buf .here ?_
  refine Hd.chB (b := b) (o := 2 + 0 * 8 + 0) pkk (fun hcl => ?_)
  refine Hd.worldOk (wb := wb) (w := w) pkk (fun hwo => ?_)
  have hS : ¬ rdN (x.s 0) most < 1 → readS ⟨x, w, t⟩ now most = rdP ⟨x, w, t⟩ now (readR w x.fd (rdN (x.s 0) most)) := fun h => if_neg h
  have hlen := (readR_len w x.fd (rdN (x.s 0) most)).resolve_right (fun h => h hwo)
  obtain ⟨⟨⟨bs, eo, ec⟩, w'⟩, hrr⟩ : ∃ rr, readR w x.fd (rdN (x.s 0) most) = rr := ⟨_, rfl⟩
  rw [hrr] at hS hlen
  dsimp only at hlen
  refine Hd.seq (fun K1 hK1 => ?_)
  refine Hd.region ?_
  refine Hd.yv (y_move rfl) ?_
  refine Hd.yv (y_nilp rfl) ?_
  first | (refine Hd.yv (y_field' (q := 2) (ft := 92) Try.underlying94 rfl sz92 rfl rfl) ?_) | (refine Hd.yv (y_fieldR (q := 2) (ft := 92) Try.underlying94 rfl sz92 rfl rfl) ?_)
  refine Hd.yv (y_idxA Try.underlying92 sz91 rfl rfl (by first | omega | decide)) ?_
  refine Hd.yv (y_assign rfl) ?_
  refine Hd.nil ?_
  refine Hd.slots [(0, _), (1, _), (2, _), (3, _), (8, _)] ⟨rfl, rfl, rfl, rfl, rfl, trivial⟩ ?_
  refine Hd.toK hK1 ?_
  refine Hd.seq (fun K2 hK2 => ?_)
  refine Hd.region ?_
  refine Hd.yv (y_move rfl) ?_
  refine Hd.yv (y_move rfl) ?_
  refine Hd.yv (y_nilp rfl) ?_
  first | (refine Hd.yv (y_field' (q := 0) (ft := 89) Try.underlying91 rfl sz89 rfl rfl) ?_) | (refine Hd.yv (y_fieldR (q := 0) (ft := 89) Try.underlying91 rfl sz89 rfl rfl) ?_)
  refine Hd.callE rfl fk41 (chLen _ b (2 + 0 * 8 + 0) (x.s 0).c) (Ent.sep enn) ?_
  intro _
  first | (refine Hd.yv (y_subn rfl rfl (by simp only [InK]; omega)) ?_) | (refine Hd.yv (y_sub rfl rfl) ?_)
  refine Hd.yv (y_min3 rfl rfl rfl) ?_
  refine Hd.yv (y_assign rfl) ?_
  refine Hd.nil ?_
  refine Hd.slots [(0, _), (1, _), (3, _), (8, _), (9, _)] ⟨rfl, rfl, rfl, rfl, rfl, trivial⟩ ?_
  refine Hd.toK hK2 ?_
  refine Hd.cutK (ι := Unit) [(0, _), (1, _), (3, _), (8, _)] (fun _ => [(9, .int .i64 (rdN (x.s 0) most))]) (fun _ => BfL b wb x 0 (WorldP wb w :: ToP bt t :: L)) ?_ ?_ ⟨rfl, rfl, rfl, rfl, trivial⟩
  ·
    refine Hd.seq (fun K3 hK3 => ?_)
    refine Hd.region ?_
    refine Hd.yv (y_move rfl) ?_
    refine Hd.yv (y_nilp rfl) ?_
    first | (refine Hd.yv (y_field' (q := 5) (ft := 3) Try.underlying91 rfl sz3 rfl rfl) ?_) | (refine Hd.yv (y_fieldR (q := 5) (ft := 3) Try.underlying91 rfl sz3 rfl rfl) ?_)
    first | (refine Hd.yv (y_load1 ag3 rfl (Rd.pt1 pkk (by (first | rfl)))) ?_) | (refine Hd.yv (y_load1 ag3 rfl (Rd.seg1 pkk (by (first | rfl)))) ?_) | (refine Hd.yv (y_load1 ag3 rfl (Rd.segK1 pkk (by decide) (by (first | rfl)))) ?_) | (refine Hd.yv (y_loadR1 ag3 rfl (by (first | exact RdS.own pkk)) (by (first | rfl))) ?_)
    refine Hd.yv (y_gtr rfl rfl) ?_
    refine Hd.nil ?_
    refine Hd.slots [(0, _), (1, _), (3, _), (8, _), (9, _), (28, _)] ⟨rfl, rfl, rfl, rfl, rfl, rfl, trivial⟩ ?_
    refine Hd.toK hK3 ?_
    refine Hd.cond rfl (fun hc0 => ?_) (fun hc0 => ?_)
    ·
      try simp only [decide_eq_true_eq, decide_eq_false_iff_not, Bool.and_eq_true, Bool.or_eq_true, Bool.and_eq_false_iff, Bool.or_eq_false_iff, Bool.not_eq_true', Bool.not_eq_false', Bool.not_eq_true, Bool.not_eq_false, Int.not_lt, Int.not_le, Decidable.not_not, ne_eq] at hc0
      refine Hd.drawsH ([segK b (2 + 0 * 8) 2 (encS (x.s 0))]) (fun _ => true) mixed ?_
      simp only [List.length, Nat.zero_add, Nat.reduceAdd]
      refine Hd.takeH 0 rfl (by kernel_rfl) (by kernel_rfl) (by kernel_rfl) (by kernel_rfl) (y_move rfl) (fun _ _ => rfl) (Ent.sep enn) ?_
      refine Hd.takeH 1 rfl (by kernel_rfl) (by kernel_rfl) (by kernel_rfl) (by kernel_rfl) (y_move rfl) (fun _ _ => rfl) (Ent.sep enn) ?_
      refine Hd.takeH 2 rfl (by kernel_rfl) (by kernel_rfl) (by kernel_rfl) (by kernel_rfl) (y_nilp rfl) (fun _ _ => rfl) (Ent.sep enn) ?_
      first | (refine Hd.takeH 3 rfl (by kernel_rfl) (by kernel_rfl) (by kernel_rfl) (by kernel_rfl) (y_field' (q := 5) (ft := 3) Try.underlying91 rfl sz3 rfl rfl) (fun _ _ => rfl) (Ent.sep enn) ?_) | (refine Hd.takeH 3 rfl (by kernel_rfl) (by kernel_rfl) (by kernel_rfl) (by kernel_rfl) (y_fieldR (q := 5) (ft := 3) Try.underlying91 rfl sz3 rfl rfl) (fun _ _ => rfl) (Ent.sep enn) ?_)
      first | (refine Hd.takeH 4 rfl (by kernel_rfl) (by kernel_rfl) (by kernel_rfl) (by kernel_rfl) (y_load1 ag3 rfl (Rd.pt1 pkk (by (first | rfl)))) (fun _ _ => rfl) (Ent.sep enn) ?_) | (refine Hd.takeH 4 rfl (by kernel_rfl) (by kernel_rfl) (by kernel_rfl) (by kernel_rfl) (y_load1 ag3 rfl (Rd.seg1 pkk (by (first | rfl)))) (fun _ _ => rfl) (Ent.sep enn) ?_) | (refine Hd.takeH 4 rfl (by kernel_rfl) (by kernel_rfl) (by kernel_rfl) (by kernel_rfl) (y_load1 ag3 rfl (Rd.segK1 pkk (by decide) (by (first | rfl)))) (fun _ _ => rfl) (Ent.sep enn) ?_) | (refine Hd.takeH 4 rfl (by kernel_rfl) (by kernel_rfl) (by kernel_rfl) (by kernel_rfl) (y_loadR1 ag3 rfl (by (first | exact RdS.own pkk)) (by (first | rfl))) (fun _ _ => rfl) (Ent.sep enn) ?_)
      refine Hd.takeH 5 rfl (by kernel_rfl) (by kernel_rfl) (by kernel_rfl) (by kernel_rfl) (y_move rfl) (fun _ _ => rfl) (Ent.sep enn) ?_
      refine Hd.takeH 6 rfl (by kernel_rfl) (by kernel_rfl) (by kernel_rfl) (by kernel_rfl) (y_nilp rfl) (fun _ _ => rfl) (Ent.sep enn) ?_
      first | (refine Hd.takeH 7 rfl (by kernel_rfl) (by kernel_rfl) (by kernel_rfl) (by kernel_rfl) (y_field' (q := 0) (ft := 89) Try.underlying91 rfl sz89 rfl rfl) (fun _ _ => rfl) (Ent.sep enn) ?_) | (refine Hd.takeH 7 rfl (by kernel_rfl) (by kernel_rfl) (by kernel_rfl) (by kernel_rfl) (y_fieldR (q := 0) (ft := 89) Try.underlying91 rfl sz89 rfl rfl) (fun _ _ => rfl) (Ent.sep enn) ?_)
      refine Hd.onlyH 8 rfl (by kernel_rfl) ?_
      refine Hd.callE rfl fk41 (chLen _ b (2 + 0 * 8 + 0) (x.s 0).c) (Ent.sep enn) ?_
      intro _
      refine Hd.nil ?_
      refine Hd.thenN ?_
      refine Hd.heldK (J := (fun _ => true)) (i := 8) (Ent.sep enn) ?_
      first | (refine Hd.takeH 9 rfl (by kernel_rfl) (by kernel_rfl) (by kernel_rfl) (by kernel_rfl) (y_subn rfl rfl (by simp only [InK]; omega)) (fun _ _ => rfl) (Ent.sep enn) ?_) | (refine Hd.takeH 9 rfl (by kernel_rfl) (by kernel_rfl) (by kernel_rfl) (by kernel_rfl) (y_sub rfl rfl) (fun _ _ => rfl) (Ent.sep enn) ?_)
      refine Hd.takeH 10 rfl (by kernel_rfl) (by kernel_rfl) (by kernel_rfl) (by kernel_rfl) (y_min rfl rfl) (fun _ _ => rfl) (Ent.sep enn) ?_
      refine Hd.takeH 11 rfl (by kernel_rfl) (by kernel_rfl) (by kernel_rfl) (by kernel_rfl) (y_assign rfl) (fun _ _ => rfl) (Ent.sep enn) ?_
      refine Hd.endH (by kernel_rfl) ?_
      refine Hd.slots [(0, _), (1, _), (3, _), (8, _), (9, _)] ⟨rfl, rfl, rfl, rfl, rfl, trivial⟩ ?_
      clear hK1 hK2 hK3
      refine Hd.thenN ?_
      have hn9 : rdN (x.s 0) most = min (min (min most 4096) (1048576 - ((x.s 0).c.length : Int))) ((x.s 0).high - ((x.s 0).c.length : Int)) := if_pos hc0
      rw [← hn9]
      exact Hd.meet () (by repeat (first | exact trivial | refine ⟨rfl, ?_⟩)) (Ent.sep enn)
    ·
      try simp only [decide_eq_true_eq, decide_eq_false_iff_not, Bool.and_eq_true, Bool.or_eq_true, Bool.and_eq_false_iff, Bool.or_eq_false_iff, Bool.not_eq_true', Bool.not_eq_false', Bool.not_eq_true, Bool.not_eq_false, Int.not_lt, Int.not_le, Decidable.not_not, ne_eq] at hc0
      refine Hd.skip ?_
      clear hK1 hK2 hK3
      refine Hd.thenN ?_
      have hn9 : rdN (x.s 0) most = min (min most 4096) (1048576 - ((x.s 0).c.length : Int)) := if_neg (by omega)
      rw [← hn9]
      exact Hd.meet () (by repeat (first | exact trivial | refine ⟨rfl, ?_⟩)) (Ent.sep enn)
  ·
    intro _
    refine Hd.seq (fun K4 hK4 => ?_)
    refine Hd.seq (fun K5 hK5 => ?_)
    refine Hd.region ?_
    refine Hd.yv (y_move rfl) ?_
    refine Hd.yv (y_lss rfl rfl) ?_
    refine Hd.nil ?_
    refine Hd.slots [(0, _), (1, _), (3, _), (8, _), (9, _), (41, _)] ⟨rfl, rfl, rfl, rfl, rfl, rfl, trivial⟩ ?_
    refine Hd.toK hK5 ?_
    refine Hd.cond rfl (fun hc1 => ?_) (fun hc1 => ?_)
    ·
      try simp only [decide_eq_true_eq, decide_eq_false_iff_not, Bool.and_eq_true, Bool.or_eq_true, Bool.and_eq_false_iff, Bool.or_eq_false_iff, Bool.not_eq_true', Bool.not_eq_false', Bool.not_eq_true, Bool.not_eq_false, Int.not_lt, Int.not_le, Decidable.not_not, ne_eq] at hc1
      refine Hd.ret ?_
      refine Hd.thenRet ?_
      clear hK1 hK2 hK4 hK5
      rw [show readS ⟨x, w, t⟩ now most = ⟨x, w, t⟩ from if_pos hc1]
      exact Hd.ret0 rfl () rfl (fun q s => buf_close rfl rfl rfl q (Ent.sep enn q s))
    ·
      try simp only [decide_eq_true_eq, decide_eq_false_iff_not, Bool.and_eq_true, Bool.or_eq_true, Bool.and_eq_false_iff, Bool.or_eq_false_iff, Bool.not_eq_true', Bool.not_eq_false', Bool.not_eq_true, Bool.not_eq_false, Int.not_lt, Int.not_le, Decidable.not_not, ne_eq] at hc1
      refine Hd.skip ?_
      refine Hd.toK hK4 ?_
      refine Hd.seq (fun K6 hK6 => ?_)
      refine Hd.drawsH ([BfH b wb x.fd]) (fun _ => true) mixed ?_
      simp only [List.length, Nat.zero_add, Nat.reduceAdd]
      refine Hd.takeH 0 rfl (by kernel_rfl) (by kernel_rfl) (by kernel_rfl) (by kernel_rfl) (y_move rfl) (fun _ _ => rfl) (Ent.sep enn) ?_
      refine Hd.takeH 1 rfl (by kernel_rfl) (by kernel_rfl) (by kernel_rfl) (by kernel_rfl) (y_nilp rfl) (fun _ _ => rfl) (Ent.sep enn) ?_
      first | (refine Hd.takeH 2 rfl (by kernel_rfl) (by kernel_rfl) (by kernel_rfl) (by kernel_rfl) (y_field' (q := 0) (ft := 25) Try.underlying94 rfl sz25 rfl rfl) (fun _ _ => rfl) (Ent.sep enn) ?_) | (refine Hd.takeH 2 rfl (by kernel_rfl) (by kernel_rfl) (by kernel_rfl) (by kernel_rfl) (y_fieldR (q := 0) (ft := 25) Try.underlying94 rfl sz25 rfl rfl) (fun _ _ => rfl) (Ent.sep enn) ?_)
      first | (refine Hd.takeH 3 rfl (by kernel_rfl) (by kernel_rfl) (by kernel_rfl) (by kernel_rfl) (y_load1 ag25 rfl (Rd.pt1 pkk (by (first | rfl)))) (fun _ _ => rfl) (Ent.sep enn) ?_) | (refine Hd.takeH 3 rfl (by kernel_rfl) (by kernel_rfl) (by kernel_rfl) (by kernel_rfl) (y_load1 ag25 rfl (Rd.seg1 pkk (by (first | rfl)))) (fun _ _ => rfl) (Ent.sep enn) ?_) | (refine Hd.takeH 3 rfl (by kernel_rfl) (by kernel_rfl) (by kernel_rfl) (by kernel_rfl) (y_load1 ag25 rfl (Rd.segK1 pkk (by decide) (by (first | rfl)))) (fun _ _ => rfl) (Ent.sep enn) ?_) | (refine Hd.takeH 3 rfl (by kernel_rfl) (by kernel_rfl) (by kernel_rfl) (by kernel_rfl) (y_loadR1 ag25 rfl (by (first | exact RdS.own pkk)) (by (first | rfl))) (fun _ _ => rfl) (Ent.sep enn) ?_)
      refine Hd.takeH 4 rfl (by kernel_rfl) (by kernel_rfl) (by kernel_rfl) (by kernel_rfl) (y_move rfl) (fun _ _ => rfl) (Ent.sep enn) ?_
      refine Hd.takeH 5 rfl (by kernel_rfl) (by kernel_rfl) (by kernel_rfl) (by kernel_rfl) (y_nilp rfl) (fun _ _ => rfl) (Ent.sep enn) ?_
      first | (refine Hd.takeH 6 rfl (by kernel_rfl) (by kernel_rfl) (by kernel_rfl) (by kernel_rfl) (y_field' (q := 1) (ft := 3) Try.underlying94 rfl sz3 rfl rfl) (fun _ _ => rfl) (Ent.sep enn) ?_) | (refine Hd.takeH 6 rfl (by kernel_rfl) (by kernel_rfl) (by kernel_rfl) (by kernel_rfl) (y_fieldR (q := 1) (ft := 3) Try.underlying94 rfl sz3 rfl rfl) (fun _ _ => rfl) (Ent.sep enn) ?_)
      first | (refine Hd.takeH 7 rfl (by kernel_rfl) (by kernel_rfl) (by kernel_rfl) (by kernel_rfl) (y_load1 ag3 rfl (Rd.pt1 pkk (by (first | rfl)))) (fun _ _ => rfl) (Ent.sep enn) ?_) | (refine Hd.takeH 7 rfl (by kernel_rfl) (by kernel_rfl) (by kernel_rfl) (by kernel_rfl) (y_load1 ag3 rfl (Rd.seg1 pkk (by (first | rfl)))) (fun _ _ => rfl) (Ent.sep enn) ?_) | (refine Hd.takeH 7 rfl (by kernel_rfl) (by kernel_rfl) (by kernel_rfl) (by kernel_rfl) (y_load1 ag3 rfl (Rd.segK1 pkk (by decide) (by (first | rfl)))) (fun _ _ => rfl) (Ent.sep enn) ?_) | (refine Hd.takeH 7 rfl (by kernel_rfl) (by kernel_rfl) (by kernel_rfl) (by kernel_rfl) (y_loadR1 ag3 rfl (by (first | exact RdS.own pkk)) (by (first | rfl))) (fun _ _ => rfl) (Ent.sep enn) ?_)
      refine Hd.takeH 8 rfl (by kernel_rfl) (by kernel_rfl) (by kernel_rfl) (by kernel_rfl) (y_move rfl) (fun _ _ => rfl) (Ent.sep enn) ?_
      refine Hd.onlyH 9 rfl (by kernel_rfl) ?_
      refine Hd.callE rfl fk25 (wread_ct _ wb w x.fd (rdN (x.s 0) most)) (Ent.sep enn) ?_
      rintro ⟨ad, c⟩
      rw [hrr]
      dsimp only
      refine Hd.nil ?_
      refine Hd.thenN ?_
      refine Hd.heldK (J := (fun _ => true)) (i := 9) (Ent.sep enn) ?_
      refine Hd.takeH 10 rfl (by kernel_rfl) (by kernel_rfl) (by kernel_rfl) (by kernel_rfl) (y_move rfl) (fun _ _ => rfl) (Ent.sep enn) ?_
      refine Hd.takeH 11 rfl (by kernel_rfl) (by kernel_rfl) (by kernel_rfl) (by kernel_rfl) (y_extract rfl rfl) (fun _ _ => rfl) (Ent.sep enn) ?_
      refine Hd.takeH 12 rfl (by kernel_rfl) (by kernel_rfl) (by kernel_rfl) (by kernel_rfl) (y_extract rfl rfl) (fun _ _ => rfl) (Ent.sep enn) ?_
      refine Hd.takeH 13 rfl (by kernel_rfl) (by kernel_rfl) (by kernel_rfl) (by kernel_rfl) (y_extract rfl rfl) (fun _ _ => rfl) (Ent.sep enn) ?_
      refine Hd.takeH 14 rfl (by kernel_rfl) (by kernel_rfl) (by kernel_rfl) (by kernel_rfl) (y_assign rfl) (fun _ _ => rfl) (Ent.sep enn) ?_
      refine Hd.takeH 15 rfl (by kernel_rfl) (by kernel_rfl) (by kernel_rfl) (by kernel_rfl) (y_assign rfl) (fun _ _ => rfl) (Ent.sep enn) ?_
      refine Hd.takeH 16 rfl (by kernel_rfl) (by kernel_rfl) (by kernel_rfl) (by kernel_rfl) (y_assign rfl) (fun _ _ => rfl) (Ent.sep enn) ?_
      refine Hd.endH (by kernel_rfl) ?_
      refine Hd.slots [(0, _), (1, _), (3, _), (8, _), (10, _), (11, _), (12, _)] ⟨rfl, rfl, rfl, rfl, rfl, rfl, rfl, trivial⟩ ?_
      refine Hd.toK hK6 ?_
      refine Hd.block ?_
      refine Hd.seq (fun K7 hK7 => ?_)
      refine Hd.region ?_
      refine Hd.yv (y_move rfl) ?_
      refine Hd.yv (y_assign rfl) ?_
      refine Hd.nil ?_
      refine Hd.slots [(0, _), (1, _), (3, _), (8, _), (10, _), (12, _), (81, _)] ⟨rfl, rfl, rfl, rfl, rfl, rfl, rfl, trivial⟩ ?_
      refine Hd.toK hK7 ?_
      refine Hd.cond rfl (fun hc2 => ?_) (fun hc2 => ?_)
      ·
        try simp only [decide_eq_true_eq, decide_eq_false_iff_not, Bool.and_eq_true, Bool.or_eq_true, Bool.and_eq_false_iff, Bool.or_eq_false_iff, Bool.not_eq_true', Bool.not_eq_false', Bool.not_eq_true, Bool.not_eq_false, Int.not_lt, Int.not_le, Decidable.not_not, ne_eq] at hc2
        refine Hd.region ?_
        refine Hd.yv (y_move rfl) ?_
        refine Hd.yv (y_move rfl) ?_
        refine Hd.callE rfl fk62 (stop_ct _ b 0 bt (x.s 0) t 17 0) (Ent.sep enn) ?_
        intro _
        refine Hd.nil ?_
        refine Hd.slots [] trivial ?_
        refine Hd.inB ?_
        clear hK1 hK2 hK4 hK5 hK6 hK7
        rw [show readS ⟨x, w, t⟩ now most = ⟨x.up 0 fun s => stopF s, w', stopT t 17 0⟩ from (hS (by omega)).trans (if_pos hc2)]
        exact Hd.end0 rfl () rfl (fun q s => buf_put (fd := x.fd) (x' := x.up 0 fun s => stopF s) (s0 := stopF (x.s 0)) (s1 := x.s 1) rfl rfl rfl q (Ent.sep enn q s))
      ·
        try simp only [decide_eq_true_eq, decide_eq_false_iff_not, Bool.and_eq_true, Bool.or_eq_true, Bool.and_eq_false_iff, Bool.or_eq_false_iff, Bool.not_eq_true', Bool.not_eq_false', Bool.not_eq_true, Bool.not_eq_false, Int.not_lt, Int.not_le, Decidable.not_not, ne_eq] at hc2
        refine Hd.seq (fun K8 hK8 => ?_)
        refine Hd.region ?_
        refine Hd.yv (y_move rfl) ?_
        first | (refine Hd.yv (y_eqlT rfl rfl) ?_) | (refine Hd.yv (y_eql rfl rfl) ?_)
        refine Hd.yv (y_assign rfl) ?_
        refine Hd.nil ?_
        refine Hd.slots [(0, _), (1, _), (3, _), (8, _), (10, _), (12, _), (86, _)] ⟨rfl, rfl, rfl, rfl, rfl, rfl, rfl, trivial⟩ ?_
        refine Hd.toK hK8 ?_
        refine Hd.cond rfl (fun hc3 => ?_) (fun hc3 => ?_)
        ·
          try simp only [decide_eq_true_eq, decide_eq_false_iff_not, Bool.and_eq_true, Bool.or_eq_true, Bool.and_eq_false_iff, Bool.or_eq_false_iff, Bool.not_eq_true', Bool.not_eq_false', Bool.not_eq_true, Bool.not_eq_false, Int.not_lt, Int.not_le, Decidable.not_not, ne_eq] at hc3
          refine Hd.skip ?_
          refine Hd.inB ?_
          clear hK1 hK2 hK4 hK5 hK6 hK7 hK8
          rw [show readS ⟨x, w, t⟩ now most = ⟨x, w', t⟩ from (hS (by omega)).trans <| (if_neg (by rw [hc2]; simp)).trans (if_pos hc3)]
          exact Hd.end0 rfl () rfl (fun q s => buf_close rfl rfl rfl q (Ent.sep enn q s))
        ·
          try simp only [decide_eq_true_eq, decide_eq_false_iff_not, Bool.and_eq_true, Bool.or_eq_true, Bool.and_eq_false_iff, Bool.or_eq_false_iff, Bool.not_eq_true', Bool.not_eq_false', Bool.not_eq_true, Bool.not_eq_false, Int.not_lt, Int.not_le, Decidable.not_not, ne_eq] at hc3
          refine Hd.seq (fun K9 hK9 => ?_)
          refine Hd.region ?_
          refine Hd.yv (y_move rfl) ?_
          refine Hd.yv (y_neq rfl rfl) ?_
          refine Hd.yv (y_assign rfl) ?_
          refine Hd.nil ?_
          refine Hd.slots [(0, _), (1, _), (3, _), (8, _), (10, _), (12, _), (89, _)] ⟨rfl, rfl, rfl, rfl, rfl, rfl, rfl, trivial⟩ ?_
          refine Hd.toK hK9 ?_
          refine Hd.cond rfl (fun hc4 => ?_) (fun hc4 => ?_)
          ·
            try simp only [decide_eq_true_eq, decide_eq_false_iff_not, Bool.and_eq_true, Bool.or_eq_true, Bool.and_eq_false_iff, Bool.or_eq_false_iff, Bool.not_eq_true', Bool.not_eq_false', Bool.not_eq_true, Bool.not_eq_false, Int.not_lt, Int.not_le, Decidable.not_not, ne_eq] at hc4
            refine Hd.region ?_
            refine Hd.yv (y_move rfl) ?_
            refine Hd.yv (y_move rfl) ?_
            refine Hd.yv (y_move rfl) ?_
            refine Hd.callE rfl fk62 (stop_ct _ b 0 bt (x.s 0) t 33 ec) (Ent.sep enn) ?_
            intro _
            refine Hd.nil ?_
            refine Hd.slots [] trivial ?_
            refine Hd.inB ?_
            clear hK1 hK2 hK4 hK5 hK6 hK7 hK8 hK9
            rw [show readS ⟨x, w, t⟩ now most = ⟨x.up 0 fun s => stopF s, w', stopT t 33 ec⟩ from (hS (by omega)).trans <| (if_neg (by rw [hc2]; simp)).trans ((if_neg hc3).trans (if_pos hc4))]
            exact Hd.end0 rfl () rfl (fun q s => buf_put (fd := x.fd) (x' := x.up 0 fun s => stopF s) (s0 := stopF (x.s 0)) (s1 := x.s 1) rfl rfl rfl q (Ent.sep enn q s))
          ·
            try simp only [decide_eq_true_eq, decide_eq_false_iff_not, Bool.and_eq_true, Bool.or_eq_true, Bool.and_eq_false_iff, Bool.or_eq_false_iff, Bool.not_eq_true', Bool.not_eq_false', Bool.not_eq_true, Bool.not_eq_false, Int.not_lt, Int.not_le, Decidable.not_not, ne_eq] at hc4
            refine Hd.seq (fun K10 hK10 => ?_)
            refine Hd.ownCap pkk (fun hmc => ?_)
            refine Hd.region ?_
            refine Hd.yv (y_move rfl) ?_
            refine Hd.yv (y_nilp rfl) ?_
            first | (refine Hd.yv (y_field' (q := 0) (ft := 89) Try.underlying91 rfl sz89 rfl rfl) ?_) | (refine Hd.yv (y_fieldR (q := 0) (ft := 89) Try.underlying91 rfl sz89 rfl rfl) ?_)
            refine Hd.yv (y_move rfl) ?_
            refine Hd.callE rfl fk44 (chAdd _ b (2 + 0 * 8 + 0) (x.s 0).c ad bs.length c bs rfl ?hA hmc (by omega)) (Ent.sep enn) ?_
            case hA => exact RdS.own (ad := ad) pkk
            intro _
            refine Hd.nil ?_
            refine Hd.slots [(0, _), (1, _), (3, _), (8, _), (10, _)] ⟨rfl, rfl, rfl, rfl, rfl, trivial⟩ ?_
            refine Hd.toK hK10 ?_
            refine Hd.seq (fun K11 hK11 => ?_)
            refine Hd.region ?_
            refine Hd.yv (y_move rfl) ?_
            refine Hd.yv (y_move rfl) ?_
            refine Hd.yv (y_len Try.underlying39 rfl) ?_
            refine Hd.yv (y_nilp rfl) ?_
            first | (refine Hd.yv (y_field' (q := 4) (ft := 3) Try.underlying49 rfl sz3 rfl rfl) ?_) | (refine Hd.yv (y_fieldR (q := 4) (ft := 3) Try.underlying49 rfl sz3 rfl rfl) ?_)
            first | (refine Hd.store1 sz3 rfl rfl rfl pkk (by first | decide | (simp; done) | (simp; omega)) ?_) | (refine Hd.storeG1 sz3 rfl rfl rfl pkk (by first | decide | (simp; done) | (simp; omega)) ?_) | (refine Hd.storeO1 sz3 rfl rfl rfl pkk (by first | omega | (simp; done) | (simp; omega)) ?_) | (refine Hd.storeK1 sz3 rfl rfl rfl pkk (by decide) (by first | decide | (simp; done) | (simp; omega)) ?_)
            try simp only [List.set_cons_zero, List.set_cons_succ]
            refine Hd.nil ?_
            refine Hd.slots [(0, _), (1, _), (3, _), (8, _)] ⟨rfl, rfl, rfl, rfl, trivial⟩ ?_
            refine Hd.toK hK11 ?_
            refine Hd.seq (fun K12 hK12 => ?_)
            refine Hd.drawsH ([segK b (2 + 0 * 8) 2 (encS (x.s 0))]) (fun j => !(([1000] : List Nat).contains j)) mixed ?_
            simp only [List.length, Nat.zero_add, Nat.reduceAdd]
            refine Hd.takeH 0 rfl (by kernel_rfl) (by kernel_rfl) (by kernel_rfl) (by kernel_rfl) (y_move rfl) (fun _ _ => rfl) (Ent.sep enn) ?_
            refine Hd.takeH 1 rfl (by kernel_rfl) (by kernel_rfl) (by kernel_rfl) (by kernel_rfl) (y_move rfl) (fun _ _ => rfl) (Ent.sep enn) ?_
            refine Hd.takeH 2 rfl (by kernel_rfl) (by kernel_rfl) (by kernel_rfl) (by kernel_rfl) (y_nilp rfl) (fun _ _ => rfl) (Ent.sep enn) ?_
            first | (refine Hd.takeH 3 rfl (by kernel_rfl) (by kernel_rfl) (by kernel_rfl) (by kernel_rfl) (y_field' (q := 0) (ft := 89) Try.underlying91 rfl sz89 rfl rfl) (fun _ _ => rfl) (Ent.sep enn) ?_) | (refine Hd.takeH 3 rfl (by kernel_rfl) (by kernel_rfl) (by kernel_rfl) (by kernel_rfl) (y_fieldR (q := 0) (ft := 89) Try.underlying91 rfl sz89 rfl rfl) (fun _ _ => rfl) (Ent.sep enn) ?_)
            refine Hd.takeH 5 rfl (by kernel_rfl) (by kernel_rfl) (by kernel_rfl) (by kernel_rfl) (y_move rfl) (fun _ _ => rfl) (Ent.sep enn) ?_
            refine Hd.takeH 6 rfl (by kernel_rfl) (by kernel_rfl) (by kernel_rfl) (by kernel_rfl) (y_nilp rfl) (fun _ _ => rfl) (Ent.sep enn) ?_
            first | (refine Hd.takeH 7 rfl (by kernel_rfl) (by kernel_rfl) (by kernel_rfl) (by kernel_rfl) (y_field' (q := 4) (ft := 3) Try.underlying91 rfl sz3 rfl rfl) (fun _ _ => rfl) (Ent.sep enn) ?_) | (refine Hd.takeH 7 rfl (by kernel_rfl) (by kernel_rfl) (by kernel_rfl) (by kernel_rfl) (y_fieldR (q := 4) (ft := 3) Try.underlying91 rfl sz3 rfl rfl) (fun _ _ => rfl) (Ent.sep enn) ?_)
            first | (refine Hd.takeH 8 rfl (by kernel_rfl) (by kernel_rfl) (by kernel_rfl) (by kernel_rfl) (y_load1 ag3 rfl (Rd.pt1 pkk (by (first | rfl)))) (fun _ _ => rfl) (Ent.sep enn) ?_) | (refine Hd.takeH 8 rfl (by kernel_rfl) (by kernel_rfl) (by kernel_rfl) (by kernel_rfl) (y_load1 ag3 rfl (Rd.seg1 pkk (by (first | rfl)))) (fun _ _ => rfl) (Ent.sep enn) ?_) | (refine Hd.takeH 8 rfl (by kernel_rfl) (by kernel_rfl) (by kernel_rfl) (by kernel_rfl) (y_load1 ag3 rfl (Rd.segK1 pkk (by decide) (by (first | rfl)))) (fun _ _ => rfl) (Ent.sep enn) ?_) | (refine Hd.takeH 8 rfl (by kernel_rfl) (by kernel_rfl) (by kernel_rfl) (by kernel_rfl) (y_loadR1 ag3 rfl (by (first | exact RdS.own pkk)) (by (first | rfl))) (fun _ _ => rfl) (Ent.sep enn) ?_)
            refine Hd.onlyH 4 rfl (by kernel_rfl) ?_
            refine Hd.callE rfl fk41 (chLen _ b (2 + 0 * 8 + 0) (addA (x.s 0).c bs)) (Ent.sep enn) ?_
            intro _
            refine Hd.nil ?_
            refine Hd.thenN ?_
            refine Hd.heldK (J := (fun j => !(([1000] : List Nat).contains j))) (i := 4) (Ent.sep enn) ?_
            refine Hd.takeH 9 rfl (by kernel_rfl) (by kernel_rfl) (by kernel_rfl) (by kernel_rfl) (y_geq rfl rfl) (fun _ _ => rfl) (Ent.sep enn) ?_
            refine Hd.takeH 10 rfl (by kernel_rfl) (by kernel_rfl) (by kernel_rfl) (by kernel_rfl) (y_nilp rfl) (fun _ _ => rfl) (Ent.sep enn) ?_
            first | (refine Hd.takeH 11 rfl (by kernel_rfl) (by kernel_rfl) (by kernel_rfl) (by kernel_rfl) (y_field' (q := 0) (ft := 4) Try.underlying49 rfl sz4 rfl rfl) (fun _ _ => rfl) (Ent.sep enn) ?_) | (refine Hd.takeH 11 rfl (by kernel_rfl) (by kernel_rfl) (by kernel_rfl) (by kernel_rfl) (y_fieldR (q := 0) (ft := 4) Try.underlying49 rfl sz4 rfl rfl) (fun _ _ => rfl) (Ent.sep enn) ?_)
            refine Hd.onlyH 12 rfl (by kernel_rfl) ?_
            first | (refine Hd.store1 sz4 rfl rfl rfl pkk (by first | decide | (simp; done) | (simp; omega)) ?_) | (refine Hd.storeG1 sz4 rfl rfl rfl pkk (by first | decide | (simp; done) | (simp; omega)) ?_) | (refine Hd.storeO1 sz4 rfl rfl rfl pkk (by first | omega | (simp; done) | (simp; omega)) ?_) | (refine Hd.storeK1 sz4 rfl rfl rfl pkk (by decide) (by first | decide | (simp; done) | (simp; omega)) ?_)
            try simp only [List.set_cons_zero, List.set_cons_succ]
            refine Hd.nil ?_
            refine Hd.thenN ?_
            refine Hd.heldK (J := (fun j => !(([1000] : List Nat).contains j))) (i := 12) (Ent.sep enn) ?_
            refine Hd.endH (by kernel_rfl) ?_
            refine Hd.slots [(0, _), (1, _)] ⟨rfl, rfl, trivial⟩ ?_
            refine Hd.toK hK12 ?_
            refine Hd.region ?_
            refine Hd.yv (y_move rfl) ?_
            refine Hd.yv (y_move rfl) ?_
            refine Hd.callE rfl fk39 (set_ct _ b 0 (by omega) { x.s 0 with c := addA (x.s 0).c bs } now hn (ht 0 (by omega)).1) (Ent.sep enn) ?_
            intro _
            refine Hd.nil ?_
            refine Hd.slots [] trivial ?_
            refine Hd.inB ?_
            clear hK1 hK2 hK4 hK5 hK6 hK7 hK8 hK9 hK10 hK11 hK12
            rw [show readS ⟨x, w, t⟩ now most = ⟨x.up 0 (getF now bs), w', { t with i := (bs.length : Int), r := decide (((addA (x.s 0).c bs).length : Int) ≥ (x.s 0).low) }⟩ from (hS (by omega)).trans <| (if_neg (by rw [hc2]; simp)).trans ((if_neg hc3).trans (if_neg (by simpa using hc4)))]
            exact Hd.end0 rfl () rfl (fun q s => buf_put (fd := x.fd) (x' := x.up 0 (getF now bs)) (s0 := setA 0 now { x.s 0 with c := addA (x.s 0).c bs }) (s1 := x.s 1) rfl rfl rfl q (Ent.sep (.pick pkk (.pick pkk (.pick pkk (.pick pkk (.pick pkk (.pick pkk (.pick pkk (.eq pkk (pt_eq (by rfl)) enn)))))))) q s))
end Bu
end Go.Proofs.Ytmpemhbfgbochaa
