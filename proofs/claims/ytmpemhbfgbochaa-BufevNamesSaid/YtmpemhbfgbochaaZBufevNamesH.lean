/-
  Buffered events: read, write, Step. Buffered events: write, Step. Buffered events: Step. Bufev's laws: the chapter's first example. Bufev's laws: the world with one pair, in plain words. Bufev's laws: steps over a pair, in plain words. Bufev's laws: Step over a pair, in plain words. Bufev's laws: calls, how many there may be; the other end of the pair. Bufev's laws: Marks. Bufev's laws: Late. Bufev's laws: what holds of the bytes, in plain words.
-/
import Derived.Test.YtmpemhbfgbochaaZBufevNamesG
namespace Go.Proofs.Ytmpemhbfgbochaa
set_option linter.unusedSimpArgs false
set_option linter.unusedVariables false
set_option linter.unnecessarySimpa false
open Go.RX Fx
namespace Bu
open Wo
set_option maxRecDepth 8000
def rdN (s : SdA) (most : Int) : Int := if s.high > 0 then min (min (min most 4096) (1048576 - (s.c.length : Int))) (s.high - (s.c.length : Int)) else min (min most 4096) (1048576 - (s.c.length : Int))
structure StA where
  x : BfA
  w : WA
  t : ToA
abbrev getF (now : Int) (bs : List UInt8) (s : SdA) : SdA := setA 0 now { s with c := addA s.c bs }
def rdP (σ : StA) (now : Int) (r : (List UInt8 × Bool × Int) × WA) : StA :=
  if r.1.2.1 = true then ⟨σ.x.up 0 fun s => stopF s, r.2, stopT σ.t 17 0⟩
  else if r.1.2.2 = 113 then ⟨σ.x, r.2, σ.t⟩
  else if r.1.2.2 ≠ 0 then ⟨σ.x.up 0 fun s => stopF s, r.2, stopT σ.t 33 r.1.2.2⟩
  else ⟨σ.x.up 0 (getF now r.1.1), r.2, { σ.t with i := (r.1.1.length : Int), r := decide (((addA (σ.x.s 0).c r.1.1).length : Int) ≥ (σ.x.s 0).low) }⟩
def readS (σ : StA) (now most : Int) : StA := if rdN (σ.x.s 0) most < 1 then σ else rdP σ now (readR σ.w σ.x.fd (rdN (σ.x.s 0) most))
theorem readR_len (w : WA) (fd n : Int) : (readR w fd n).1.1.length ≤ 65536 ∨ ¬ WOk w := by
  by_cases h : WOk w
  · left
    unfold readR
    split
    · simp
    · rename_i m k hat
      split
      · simp
      · rename_i x hx
        have hwf := h.wf x (List.mem_of_getElem? hx)
        obtain ⟨_, _, hk, _⟩ := h.at_lt hat
        have h1 := hwf.le k hk
        have h2 := hwf.cap
        repeat' split
        all_goals first
          | (simp; done)
          | (rw [List.length_take]; omega)
  · right; exact h
theorem Hd.worldOk {E : World} {n : Nat} {ds : List Deferred} {st : List (Nat × Value)} {L L' : List SP} {K : Act → World → Prop} {wb : Nat} {w : WA} (p : Pick L (WorldP wb w) L') (h : WOk w → Hd E n ds st L K) : Hd E n ds st L K := fun a v f s => by
  refine h ?_ a v f s
  obtain ⟨h1, s1, i, x⟩ := sep.one p s.2.2.2
  exact (sep_pure (p := WOk w ∧ i.rs.map Prod.snd = w.ws) x).1.1
set_option maxHeartbeats 2000000 in
theorem read_ct (L : List SP) (b wb bt : Nat) (x : BfA) (w : WA) (t : ToA) (ht : TmOk x) (now most : Int) (hn : InK .u64 now) (hm : most ≤ 9223372036854775807) (hh : InK .i64 (x.s 0).high) : Ct Try.prog 42 #[.pointer (some ⟨b, 0, none⟩), .int .u64 now, .int .i64 most, .pointer (some ⟨bt, 0, none⟩)] (BufP b wb x :: WorldP wb w :: ToP bt t :: L) (fun _ : Unit => .tuple #[]) (fun _ : Unit => BufP b wb (readS ⟨x, w, t⟩ now most).x :: WorldP wb (readS ⟨x, w, t⟩ now most).w :: ToP bt (readS ⟨x, w, t⟩ now most).t :: L) := by
  refine Ct.of (vs := [.pointer (some ⟨b, 0, none⟩), .int .u64 now, .int .i64 most, .pointer (some ⟨bt, 0, none⟩)]) Try.func42 rfl rfl [(0, .pointer (some ⟨b, 0, none⟩)), (1, .int .u64 now), (2, .int .i64 most), (3, .pointer (some ⟨bt, 0, none⟩))] (by repeat (first | exact trivial | refine ⟨rfl, ?_⟩)) ?_
  intro E
  show Hd E 96 _ _ _ _
  simp only [InK] at hh
  refine Hd.buf .here ?_
  refine Hd.chB (b := b) (o := 2 + 0 * 8 + 0) pkk (fun hcl => ?_)
  refine Hd.worldOk (wb := wb) (w := w) pkk (fun hwo => ?_)
  have hS : ¬ rdN (x.s 0) most < 1 → readS ⟨x, w, t⟩ now most = rdP ⟨x, w, t⟩ now (readR w x.fd (rdN (x.s 0) most)) := fun h => if_neg h
  have hlen := (readR_len w x.fd (rdN (x.s 0) most)).resolve_right (fun h => h hwo)
  obtain ⟨⟨⟨bs, eo, ec⟩, w'⟩, hrr⟩ : ∃ rr, readR w x.fd (rdN (x.s 0) most) = rr := ⟨_, rfl⟩
  rw [hrr] at hS hlen
  dsimp only at hlen
  refine Hd.seq (fun K1 hK1 => ?_)
  refine Hd.region ?_
  refine Hd.yv (y_move rfl) ?_
  refine Hd.yv (y_nilp rfl) ?_
  first | (refine Hd.yv (y_field' (q := 2) (ft := 92) Try.underlying94 rfl sz92 rfl rfl) ?_) | (refine Hd.yv (y_fieldR (q := 2) (ft := 92) Try.underlying94 rfl sz92 rfl rfl) ?_)
  refine Hd.yv (y_idxA Try.underlying92 sz91 rfl rfl (by first | omega | decide)) ?_
  refine Hd.yv (y_assign rfl) ?_
  refine Hd.nil ?_
  refine Hd.slots [(0, _), (1, _), (2, _), (3, _), (8, _)] ⟨rfl, rfl, rfl, rfl, rfl, trivial⟩ ?_
  refine Hd.toK hK1 ?_
  refine Hd.seq (fun K2 hK2 => ?_)
  refine Hd.region ?_
  refine Hd.yv (y_move rfl) ?_
  refine Hd.yv (y_move rfl) ?_
  refine Hd.yv (y_nilp rfl) ?_
  first | (refine Hd.yv (y_field' (q := 0) (ft := 89) Try.underlying91 rfl sz89 rfl rfl) ?_) | (refine Hd.yv (y_fieldR (q := 0) (ft := 89) Try.underlying91 rfl sz89 rfl rfl) ?_)
  refine Hd.callE rfl fk41 (chLen _ b (2 + 0 * 8 + 0) (x.s 0).c) (Ent.sep enn) ?_
  intro _
  first | (refine Hd.yv (y_subn rfl rfl (by simp only [InK]; omega)) ?_) | (refine Hd.yv (y_sub rfl rfl) ?_)
  refine Hd.yv (y_min3 rfl rfl rfl) ?_
  refine Hd.yv (y_assign rfl) ?_
  refine Hd.nil ?_
  refine Hd.slots [(0, _), (1, _), (3, _), (8, _), (9, _)] ⟨rfl, rfl, rfl, rfl, rfl, trivial⟩ ?_
  refine Hd.toK hK2 ?_
  refine Hd.cutK (ι := Unit) [(0, _), (1, _), (3, _), (8, _)] (fun _ => [(9, .int .i64 (rdN (x.s 0) most))]) (fun _ => BfL b wb x 0 (WorldP wb w :: ToP bt t :: L)) ?_ ?_ ⟨rfl, rfl, rfl, rfl, trivial⟩
  ·
    refine Hd.seq (fun K3 hK3 => ?_)
    refine Hd.region ?_
    refine Hd.yv (y_move rfl) ?_
    refine Hd.yv (y_nilp rfl) ?_
    first | (refine Hd.yv (y_field' (q := 5) (ft := 3) Try.underlying91 rfl sz3 rfl rfl) ?_) | (refine Hd.yv (y_fieldR (q := 5) (ft := 3) Try.underlying91 rfl sz3 rfl rfl) ?_)
    first | (refine Hd.yv (y_load1 ag3 rfl (Rd.pt1 pkk (by (first | rfl)))) ?_) | (refine Hd.yv (y_load1 ag3 rfl (Rd.seg1 pkk (by (first | rfl)))) ?_) | (refine Hd.yv (y_load1 ag3 rfl (Rd.segK1 pkk (by decide) (by (first | rfl)))) ?_) | (refine Hd.yv (y_loadR1 ag3 rfl (by (first | exact RdS.own pkk)) (by (first | rfl))) ?_)
    refine Hd.yv (y_gtr rfl rfl) ?_
    refine Hd.nil ?_
    refine Hd.slots [(0, _), (1, _), (3, _), (8, _), (9, _), (28, _)] ⟨rfl, rfl, rfl, rfl, rfl, rfl, trivial⟩ ?_
    refine Hd.toK hK3 ?_
    refine Hd.cond rfl (fun hc0 => ?_) (fun hc0 => ?_)
    ·
      try simp only [decide_eq_true_eq, decide_eq_false_iff_not, Bool.and_eq_true, Bool.or_eq_true, Bool.and_eq_false_iff, Bool.or_eq_false_iff, Bool.not_eq_true', Bool.not_eq_false', Bool.not_eq_true, Bool.not_eq_false, Int.not_lt, Int.not_le, Decidable.not_not, ne_eq] at hc0
      refine Hd.drawsH ([segK b (2 + 0 * 8) 2 (encS (x.s 0))]) (fun _ => true) mixed ?_
      simp only [List.length, Nat.zero_add, Nat.reduceAdd]
      refine Hd.takeH 0 rfl (by kernel_rfl) (by kernel_rfl) (by kernel_rfl) (by kernel_rfl) (y_move rfl) (fun _ _ => rfl) (Ent.sep enn) ?_
      refine Hd.takeH 1 rfl (by kernel_rfl) (by kernel_rfl) (by kernel_rfl) (by kernel_rfl) (y_move rfl) (fun _ _ => rfl) (Ent.sep enn) ?_
      refine Hd.takeH 2 rfl (by kernel_rfl) (by kernel_rfl) (by kernel_rfl) (by kernel_rfl) (y_nilp rfl) (fun _ _ => rfl) (Ent.sep enn) ?_
      first | (refine Hd.takeH 3 rfl (by kernel_rfl) (by kernel_rfl) (by kernel_rfl) (by kernel_rfl) (y_field' (q := 5) (ft := 3) Try.underlying91 rfl sz3 rfl rfl) (fun _ _ => rfl) (Ent.sep enn) ?_) | (refine Hd.takeH 3 rfl (by kernel_rfl) (by kernel_rfl) (by kernel_rfl) (by kernel_rfl) (y_fieldR (q := 5) (ft := 3) Try.underlying91 rfl sz3 rfl rfl) (fun _ _ => rfl) (Ent.sep enn) ?_)
      first | (refine Hd.takeH 4 rfl (by kernel_rfl) (by kernel_rfl) (by kernel_rfl) (by kernel_rfl) (y_load1 ag3 rfl (Rd.pt1 pkk (by (first | rfl)))) (fun _ _ => rfl) (Ent.sep enn) ?_) | (refine Hd.takeH 4 rfl (by kernel_rfl) (by kernel_rfl) (by kernel_rfl) (by kernel_rfl) (y_load1 ag3 rfl (Rd.seg1 pkk (by (first | rfl)))) (fun _ _ => rfl) (Ent.sep enn) ?_) | (refine Hd.takeH 4 rfl (by kernel_rfl) (by kernel_rfl) (by kernel_rfl) (by kernel_rfl) (y_load1 ag3 rfl (Rd.segK1 pkk (by decide) (by (first | rfl)))) (fun _ _ => rfl) (Ent.sep enn) ?_) | (refine Hd.takeH 4 rfl (by kernel_rfl) (by kernel_rfl) (by kernel_rfl) (by kernel_rfl) (y_loadR1 ag3 rfl (by (first | exact RdS.own pkk)) (by (first | rfl))) (fun _ _ => rfl) (Ent.sep enn) ?_)
      refine Hd.takeH 5 rfl (by kernel_rfl) (by kernel_rfl) (by kernel_rfl) (by kernel_rfl) (y_move rfl) (fun _ _ => rfl) (Ent.sep enn) ?_
      refine Hd.takeH 6 rfl (by kernel_rfl) (by kernel_rfl) (by kernel_rfl) (by kernel_rfl) (y_nilp rfl) (fun _ _ => rfl) (Ent.sep enn) ?_
      first | (refine Hd.takeH 7 rfl (by kernel_rfl) (by kernel_rfl) (by kernel_rfl) (by kernel_rfl) (y_field' (q := 0) (ft := 89) Try.underlying91 rfl sz89 rfl rfl) (fun _ _ => rfl) (Ent.sep enn) ?_) | (refine Hd.takeH 7 rfl (by kernel_rfl) (by kernel_rfl) (by kernel_rfl) (by kernel_rfl) (y_fieldR (q := 0) (ft := 89) Try.underlying91 rfl sz89 rfl rfl) (fun _ _ => rfl) (Ent.sep enn) ?_)
      refine Hd.onlyH 8 rfl (by kernel_rfl) ?_
      refine Hd.callE rfl fk41 (chLen _ b (2 + 0 * 8 + 0) (x.s 0).c) (Ent.sep enn) ?_
      intro _
      refine Hd.nil ?_
      refine Hd.thenN ?_
      refine Hd.heldK (J := (fun _ => true)) (i := 8) (Ent.sep enn) ?_
      first | (refine Hd.takeH 9 rfl (by kernel_rfl) (by kernel_rfl) (by kernel_rfl) (by kernel_rfl) (y_subn rfl rfl (by simp only [InK]; omega)) (fun _ _ => rfl) (Ent.sep enn) ?_) | (refine Hd.takeH 9 rfl (by kernel_rfl) (by kernel_rfl) (by kernel_rfl) (by kernel_rfl) (y_sub rfl rfl) (fun _ _ => rfl) (Ent.sep enn) ?_)
      refine Hd.takeH 10 rfl (by kernel_rfl) (by kernel_rfl) (by kernel_rfl) (by kernel_rfl) (y_min rfl rfl) (fun _ _ => rfl) (Ent.sep enn) ?_
      refine Hd.takeH 11 rfl (by kernel_rfl) (by kernel_rfl) (by kernel_rfl) (by kernel_rfl) (y_assign rfl) (fun _ _ => rfl) (Ent.sep enn) ?_
      refine Hd.endH (by kernel_rfl) ?_
      refine Hd.slots [(0, _), (1, _), (3, _), (8, _), (9, _)] ⟨rfl, rfl, rfl, rfl, rfl, trivial⟩ ?_
      clear hK1 hK2 hK3
      refine Hd.thenN ?_
      have hn9 : rdN (x.s 0) most = min (min (min most 4096) (1048576 - ((x.s 0).c.length : Int))) ((x.s 0).high - ((x.s 0).c.length : Int)) := if_pos hc0
      rw [← hn9]
      exact Hd.meet () (by repeat (first | exact trivial | refine ⟨rfl, ?_⟩)) (Ent.sep enn)
    ·
      try simp only [decide_eq_true_eq, decide_eq_false_iff_not, Bool.and_eq_true, Bool.or_eq_true, Bool.and_eq_false_iff, Bool.or_eq_false_iff, Bool.not_eq_true', Bool.not_eq_false', Bool.not_eq_true, Bool.not_eq_false, Int.not_lt, Int.not_le, Decidable.not_not, ne_eq] at hc0
      refine Hd.skip ?_
      clear hK1 hK2 hK3
      refine Hd.thenN ?_
      have hn9 : rdN (x.s 0) most = min (min most 4096) (1048576 - ((x.s 0).c.length : Int)) := if_neg (by omega)
      rw [← hn9]
      exact Hd.meet () (by repeat (first | exact trivial | refine ⟨rfl, ?_⟩)) (Ent.sep enn)
  ·
    intro _
    refine Hd.seq (fun K4 hK4 => ?_)
    refine Hd.seq (fun K5 hK5 => ?_)
    refine Hd.region ?_
    refine Hd.yv (y_move rfl) ?_
    refine Hd.yv (y_lss rfl rfl) ?_
    refine Hd.nil ?_
    refine Hd.slots [(0, _), (1, _), (3, _), (8, _), (9, _), (41, _)] ⟨rfl, rfl, rfl, rfl, rfl, rfl, trivial⟩ ?_
    refine Hd.toK hK5 ?_
    refine Hd.cond rfl (fun hc1 => ?_) (fun hc1 => ?_)
    ·
      try simp only [decide_eq_true_eq, decide_eq_false_iff_not, Bool.and_eq_true, Bool.or_eq_true, Bool.and_eq_false_iff, Bool.or_eq_false_iff, Bool.not_eq_true', Bool.not_eq_false', Bool.not_eq_true, Bool.not_eq_false, Int.not_lt, Int.not_le, Decidable.not_not, ne_eq] at hc1
      refine Hd.ret ?_
      refine Hd.thenRet ?_
      clear hK1 hK2 hK4 hK5
      rw [show readS ⟨x, w, t⟩ now most = ⟨x, w, t⟩ from if_pos hc1]
      exact Hd.ret0 rfl () rfl (fun q s => buf_close rfl rfl rfl q (Ent.sep enn q s))
    ·
      try simp only [decide_eq_true_eq, decide_eq_false_iff_not, Bool.and_eq_true, Bool.or_eq_true, Bool.and_eq_false_iff, Bool.or_eq_false_iff, Bool.not_eq_true', Bool.not_eq_false', Bool.not_eq_true, Bool.not_eq_false, Int.not_lt, Int.not_le, Decidable.not_not, ne_eq] at hc1
      refine Hd.skip ?_
      refine Hd.toK hK4 ?_
      refine Hd.seq (fun K6 hK6 => ?_)
      refine Hd.drawsH ([BfH b wb x.fd]) (fun _ => true) mixed ?_
      simp only [List.length, Nat.zero_add, Nat.reduceAdd]
      refine Hd.takeH 0 rfl (by kernel_rfl) (by kernel_rfl) (by kernel_rfl) (by kernel_rfl) (y_move rfl) (fun _ _ => rfl) (Ent.sep enn) ?_
      refine Hd.takeH 1 rfl (by kernel_rfl) (by kernel_rfl) (by kernel_rfl) (by kernel_rfl) (y_nilp rfl) (fun _ _ => rfl) (Ent.sep enn) ?_
      first | (refine Hd.takeH 2 rfl (by kernel_rfl) (by kernel_rfl) (by kernel_rfl) (by kernel_rfl) (y_field' (q := 0) (ft := 25) Try.underlying94 rfl sz25 rfl rfl) (fun _ _ => rfl) (Ent.sep enn) ?_) | (refine Hd.takeH 2 rfl (by kernel_rfl) (by kernel_rfl) (by kernel_rfl) (by kernel_rfl) (y_fieldR (q := 0) (ft := 25) Try.underlying94 rfl sz25 rfl rfl) (fun _ _ => rfl) (Ent.sep enn) ?_)
      first | (refine Hd.takeH 3 rfl (by kernel_rfl) (by kernel_rfl) (by kernel_rfl) (by kernel_rfl) (y_load1 ag25 rfl (Rd.pt1 pkk (by (first | rfl)))) (fun _ _ => rfl) (Ent.sep enn) ?_) | (refine Hd.takeH 3 rfl (by kernel_rfl) (by kernel_rfl) (by kernel_rfl) (by kernel_rfl) (y_load1 ag25 rfl (Rd.seg1 pkk (by (first | rfl)))) (fun _ _ => rfl) (Ent.sep enn) ?_) | (refine Hd.takeH 3 rfl (by kernel_rfl) (by kernel_rfl) (by kernel_rfl) (by kernel_rfl) (y_load1 ag25 rfl (Rd.segK1 pkk (by decide) (by (first | rfl)))) (fun _ _ => rfl) (Ent.sep enn) ?_) | (refine Hd.takeH 3 rfl (by kernel_rfl) (by kernel_rfl) (by kernel_rfl) (by kernel_rfl) (y_loadR1 ag25 rfl (by (first | exact RdS.own pkk)) (by (first | rfl))) (fun _ _ => rfl) (Ent.sep enn) ?_)
      refine Hd.takeH 4 rfl (by kernel_rfl) (by kernel_rfl) (by kernel_rfl) (by kernel_rfl) (y_move rfl) (fun _ _ => rfl) (Ent.sep enn) ?_
      refine Hd.takeH 5 rfl (by kernel_rfl) (by kernel_rfl) (by kernel_rfl) (by kernel_rfl) (y_nilp rfl) (fun _ _ => rfl) (Ent.sep enn) ?_
      first | (refine Hd.takeH 6 rfl (by kernel_rfl) (by kernel_rfl) (by kernel_rfl) (by kernel_rfl) (y_field' (q := 1) (ft := 3) Try.underlying94 rfl sz3 rfl rfl) (fun _ _ => rfl) (Ent.sep enn) ?_) | (refine Hd.takeH 6 rfl (by kernel_rfl) (by kernel_rfl) (by kernel_rfl) (by kernel_rfl) (y_fieldR (q := 1) (ft := 3) Try.underlying94 rfl sz3 rfl rfl) (fun _ _ => rfl) (Ent.sep enn) ?_)
      first | (refine Hd.takeH 7 rfl (by kernel_rfl) (by kernel_rfl) (by kernel_rfl) (by kernel_rfl) (y_load1 ag3 rfl (Rd.pt1 pkk (by (first | rfl)))) (fun _ _ => rfl) (Ent.sep enn) ?_) | (refine Hd.takeH 7 rfl (by kernel_rfl) (by kernel_rfl) (by kernel_rfl) (by kernel_rfl) (y_load1 ag3 rfl (Rd.seg1 pkk (by (first | rfl)))) (fun _ _ => rfl) (Ent.sep enn) ?_) | (refine Hd.takeH 7 rfl (by kernel_rfl) (by kernel_rfl) (by kernel_rfl) (by kernel_rfl) (y_load1 ag3 rfl (Rd.segK1 pkk (by decide) (by (first | rfl)))) (fun _ _ => rfl) (Ent.sep enn) ?_) | (refine Hd.takeH 7 rfl (by kernel_rfl) (by kernel_rfl) (by kernel_rfl) (by kernel_rfl) (y_loadR1 ag3 rfl (by (first | exact RdS.own pkk)) (by (first | rfl))) (fun _ _ => rfl) (Ent.sep enn) ?_)
      refine Hd.takeH 8 rfl (by kernel_rfl) (by kernel_rfl) (by kernel_rfl) (by kernel_rfl) (y_move rfl) (fun _ _ => rfl) (Ent.sep enn) ?_
      refine Hd.onlyH 9 rfl (by kernel_rfl) ?_
      refine Hd.callE rfl fk25 (wread_ct _ wb w x.fd (rdN (x.s 0) most)) (Ent.sep enn) ?_
      rintro ⟨ad, c⟩
      rw [hrr]
      dsimp only
      refine Hd.nil ?_
      refine Hd.thenN ?_
      refine Hd.heldK (J := (fun _ => true)) (i := 9) (Ent.sep enn) ?_
      refine Hd.takeH 10 rfl (by kernel_rfl) (by kernel_rfl) (by kernel_rfl) (by kernel_rfl) (y_move rfl) (fun _ _ => rfl) (Ent.sep enn) ?_
      refine Hd.takeH 11 rfl (by kernel_rfl) (by kernel_rfl) (by kernel_rfl) (by kernel_rfl) (y_extract rfl rfl) (fun _ _ => rfl) (Ent.sep enn) ?_
      refine Hd.takeH 12 rfl (by kernel_rfl) (by kernel_rfl) (by kernel_rfl) (by kernel_rfl) (y_extract rfl rfl) (fun _ _ => rfl) (Ent.sep enn) ?_
      refine Hd.takeH 13 rfl (by kernel_rfl) (by kernel_rfl) (by kernel_rfl) (by kernel_rfl) (y_extract rfl rfl) (fun _ _ => rfl) (Ent.sep enn) ?_
      refine Hd.takeH 14 rfl (by kernel_rfl) (by kernel_rfl) (by kernel_rfl) (by kernel_rfl) (y_assign rfl) (fun _ _ => rfl) (Ent.sep enn) ?_
      refine Hd.takeH 15 rfl (by kernel_rfl) (by kernel_rfl) (by kernel_rfl) (by kernel_rfl) (y_assign rfl) (fun _ _ => rfl) (Ent.sep enn) ?_
      refine Hd.takeH 16 rfl (by kernel_rfl) (by kernel_rfl) (by kernel_rfl) (by kernel_rfl) (y_assign rfl) (fun _ _ => rfl) (Ent.sep enn) ?_
      refine Hd.endH (by kernel_rfl) ?_
      refine Hd.slots [(0, _), (1, _), (3, _), (8, _), (10, _), (11, _), (12, _)] ⟨rfl, rfl, rfl, rfl, rfl, rfl, rfl, trivial⟩ ?_
      refine Hd.toK hK6 ?_
      refine Hd.block ?_
      refine Hd.seq (fun K7 hK7 => ?_)
      refine Hd.region ?_
      refine Hd.yv (y_move rfl) ?_
      refine Hd.yv (y_assign rfl) ?_
      refine Hd.nil ?_
      refine Hd.slots [(0, _), (1, _), (3, _), (8, _), (10, _), (12, _), (81, _)] ⟨rfl, rfl, rfl, rfl, rfl, rfl, rfl, trivial⟩ ?_
      refine Hd.toK hK7 ?_
      refine Hd.cond rfl (fun hc2 => ?_) (fun hc2 => ?_)
      ·
        try simp only [decide_eq_true_eq, decide_eq_false_iff_not, Bool.and_eq_true, Bool.or_eq_true, Bool.and_eq_false_iff, Bool.or_eq_false_iff, Bool.not_eq_true', Bool.not_eq_false', Bool.not_eq_true, Bool.not_eq_false, Int.not_lt, Int.not_le, Decidable.not_not, ne_eq] at hc2
        refine Hd.region ?_
        refine Hd.yv (y_move rfl) ?_
        refine Hd.yv (y_move rfl) ?_
        refine Hd.callE rfl fk62 (stop_ct _ b 0 bt (x.s 0) t 17 0) (Ent.sep enn) ?_
        intro _
        refine Hd.nil ?_
        refine Hd.slots [] trivial ?_
        refine Hd.inB ?_
        clear hK1 hK2 hK4 hK5 hK6 hK7
        rw [show readS ⟨x, w, t⟩ now most = ⟨x.up 0 fun s => stopF s, w', stopT t 17 0⟩ from (hS (by omega)).trans (if_pos hc2)]
        exact Hd.end0 rfl () rfl (fun q s => buf_put (fd := x.fd) (x' := x.up 0 fun s => stopF s) (s0 := stopF (x.s 0)) (s1 := x.s 1) rfl rfl rfl q (Ent.sep enn q s))
      ·
        try simp only [decide_eq_true_eq, decide_eq_false_iff_not, Bool.and_eq_true, Bool.or_eq_true, Bool.and_eq_false_iff, Bool.or_eq_false_iff, Bool.not_eq_true', Bool.not_eq_false', Bool.not_eq_true, Bool.not_eq_false, Int.not_lt, Int.not_le, Decidable.not_not, ne_eq] at hc2
        refine Hd.seq (fun K8 hK8 => ?_)
        refine Hd.region ?_
        refine Hd.yv (y_move rfl) ?_
        first | (refine Hd.yv (y_eqlT rfl rfl) ?_) | (refine Hd.yv (y_eql rfl rfl) ?_)
        refine Hd.yv (y_assign rfl) ?_
        refine Hd.nil ?_
        refine Hd.slots [(0, _), (1, _), (3, _), (8, _), (10, _), (12, _), (86, _)] ⟨rfl, rfl, rfl, rfl, rfl, rfl, rfl, trivial⟩ ?_
        refine Hd.toK hK8 ?_
        refine Hd.cond rfl (fun hc3 => ?_) (fun hc3 => ?_)
        ·
          try simp only [decide_eq_true_eq, decide_eq_false_iff_not, Bool.and_eq_true, Bool.or_eq_true, Bool.and_eq_false_iff, Bool.or_eq_false_iff, Bool.not_eq_true', Bool.not_eq_false', Bool.not_eq_true, Bool.not_eq_false, Int.not_lt, Int.not_le, Decidable.not_not, ne_eq] at hc3
          refine Hd.skip ?_
          refine Hd.inB ?_
          clear hK1 hK2 hK4 hK5 hK6 hK7 hK8
          rw [show readS ⟨x, w, t⟩ now most = ⟨x, w', t⟩ from (hS (by omega)).trans <| (if_neg (by rw [hc2]; simp)).trans (if_pos hc3)]
          exact Hd.end0 rfl () rfl (fun q s => buf_close rfl rfl rfl q (Ent.sep enn q s))
        ·
          try simp only [decide_eq_true_eq, decide_eq_false_iff_not, Bool.and_eq_true, Bool.or_eq_true, Bool.and_eq_false_iff, Bool.or_eq_false_iff, Bool.not_eq_true', Bool.not_eq_false', Bool.not_eq_true, Bool.not_eq_false, Int.not_lt, Int.not_le, Decidable.not_not, ne_eq] at hc3
          refine Hd.seq (fun K9 hK9 => ?_)
          refine Hd.region ?_
          refine Hd.yv (y_move rfl) ?_
          refine Hd.yv (y_neq rfl rfl) ?_
          refine Hd.yv (y_assign rfl) ?_
          refine Hd.nil ?_
          refine Hd.slots [(0, _), (1, _), (3, _), (8, _), (10, _), (12, _), (89, _)] ⟨rfl, rfl, rfl, rfl, rfl, rfl, rfl, trivial⟩ ?_
          refine Hd.toK hK9 ?_
          refine Hd.cond rfl (fun hc4 => ?_) (fun hc4 => ?_)
          ·
            try simp only [decide_eq_true_eq, decide_eq_false_iff_not, Bool.and_eq_true, Bool.or_eq_true, Bool.and_eq_false_iff, Bool.or_eq_false_iff, Bool.not_eq_true', Bool.not_eq_false', Bool.not_eq_true, Bool.not_eq_false, Int.not_lt, Int.not_le, Decidable.not_not, ne_eq] at hc4
            refine Hd.region ?_
            refine Hd.yv (y_move rfl) ?_
            refine Hd.yv (y_move rfl) ?_
            refine Hd.yv (y_move rfl) ?_
            refine Hd.callE rfl fk62 (stop_ct _ b 0 bt (x.s 0) t 33 ec) (Ent.sep enn) ?_
            intro _
            refine Hd.nil ?_
            refine Hd.slots [] trivial ?_
            refine Hd.inB ?_
            clear hK1 hK2 hK4 hK5 hK6 hK7 hK8 hK9
            rw [show readS ⟨x, w, t⟩ now most = ⟨x.up 0 fun s => stopF s, w', stopT t 33 ec⟩ from (hS (by omega)).trans <| (if_neg (by rw [hc2]; simp)).trans ((if_neg hc3).trans (if_pos hc4))]
            exact Hd.end0 rfl () rfl (fun q s => buf_put (fd := x.fd) (x' := x.up 0 fun s => stopF s) (s0 := stopF (x.s 0)) (s1 := x.s 1) rfl rfl rfl q (Ent.sep enn q s))
          ·
            try simp only [decide_eq_true_eq, decide_eq_false_iff_not, Bool.and_eq_true, Bool.or_eq_true, Bool.and_eq_false_iff, Bool.or_eq_false_iff, Bool.not_eq_true', Bool.not_eq_false', Bool.not_eq_true, Bool.not_eq_false, Int.not_lt, Int.not_le, Decidable.not_not, ne_eq] at hc4
            refine Hd.seq (fun K10 hK10 => ?_)
            refine Hd.ownCap pkk (fun hmc => ?_)
            refine Hd.region ?_
            refine Hd.yv (y_move rfl) ?_
            refine Hd.yv (y_nilp rfl) ?_
            first | (refine Hd.yv (y_field' (q := 0) (ft := 89) Try.underlying91 rfl sz89 rfl rfl) ?_) | (refine Hd.yv (y_fieldR (q := 0) (ft := 89) Try.underlying91 rfl sz89 rfl rfl) ?_)
            refine Hd.yv (y_move rfl) ?_
            refine Hd.callE rfl fk44 (chAdd _ b (2 + 0 * 8 + 0) (x.s 0).c ad bs.length c bs rfl ?hA hmc (by omega)) (Ent.sep enn) ?_
            case hA => exact RdS.own (ad := ad) pkk
            intro _
            refine Hd.nil ?_
            refine Hd.slots [(0, _), (1, _), (3, _), (8, _), (10, _)] ⟨rfl, rfl, rfl, rfl, rfl, trivial⟩ ?_
            refine Hd.toK hK10 ?_
            refine Hd.seq (fun K11 hK11 => ?_)
            refine Hd.region ?_
            refine Hd.yv (y_move rfl) ?_
            refine Hd.yv (y_move rfl) ?_
            refine Hd.yv (y_len Try.underlying39 rfl) ?_
            refine Hd.yv (y_nilp rfl) ?_
            first | (refine Hd.yv (y_field' (q := 4) (ft := 3) Try.underlying49 rfl sz3 rfl rfl) ?_) | (refine Hd.yv (y_fieldR (q := 4) (ft := 3) Try.underlying49 rfl sz3 rfl rfl) ?_)
            first | (refine Hd.store1 sz3 rfl rfl rfl pkk (by first | decide | (simp; done) | (simp; omega)) ?_) | (refine Hd.storeG1 sz3 rfl rfl rfl pkk (by first | decide | (simp; done) | (simp; omega)) ?_) | (refine Hd.storeO1 sz3 rfl rfl rfl pkk (by first | omega | (simp; done) | (simp; omega)) ?_) | (refine Hd.storeK1 sz3 rfl rfl rfl pkk (by decide) (by first | decide | (simp; done) | (simp; omega)) ?_)
            try simp only [List.set_cons_zero, List.set_cons_succ]
            refine Hd.nil ?_
            refine Hd.slots [(0, _), (1, _), (3, _), (8, _)] ⟨rfl, rfl, rfl, rfl, trivial⟩ ?_
            refine Hd.toK hK11 ?_
            refine Hd.seq (fun K12 hK12 => ?_)
            refine Hd.drawsH ([segK b (2 + 0 * 8) 2 (encS (x.s 0))]) (fun j => !(([1000] : List Nat).contains j)) mixed ?_
            simp only [List.length, Nat.zero_add, Nat.reduceAdd]
            refine Hd.takeH 0 rfl (by kernel_rfl) (by kernel_rfl) (by kernel_rfl) (by kernel_rfl) (y_move rfl) (fun _ _ => rfl) (Ent.sep enn) ?_
            refine Hd.takeH 1 rfl (by kernel_rfl) (by kernel_rfl) (by kernel_rfl) (by kernel_rfl) (y_move rfl) (fun _ _ => rfl) (Ent.sep enn) ?_
            refine Hd.takeH 2 rfl (by kernel_rfl) (by kernel_rfl) (by kernel_rfl) (by kernel_rfl) (y_nilp rfl) (fun _ _ => rfl) (Ent.sep enn) ?_
            first | (refine Hd.takeH 3 rfl (by kernel_rfl) (by kernel_rfl) (by kernel_rfl) (by kernel_rfl) (y_field' (q := 0) (ft := 89) Try.underlying91 rfl sz89 rfl rfl) (fun _ _ => rfl) (Ent.sep enn) ?_) | (refine Hd.takeH 3 rfl (by kernel_rfl) (by kernel_rfl) (by kernel_rfl) (by kernel_rfl) (y_fieldR (q := 0) (ft := 89) Try.underlying91 rfl sz89 rfl rfl) (fun _ _ => rfl) (Ent.sep enn) ?_)
            refine Hd.takeH 5 rfl (by kernel_rfl) (by kernel_rfl) (by kernel_rfl) (by kernel_rfl) (y_move rfl) (fun _ _ => rfl) (Ent.sep enn) ?_
            refine Hd.takeH 6 rfl (by kernel_rfl) (by kernel_rfl) (by kernel_rfl) (by kernel_rfl) (y_nilp rfl) (fun _ _ => rfl) (Ent.sep enn) ?_
            first | (refine Hd.takeH 7 rfl (by kernel_rfl) (by kernel_rfl) (by kernel_rfl) (by kernel_rfl) (y_field' (q := 4) (ft := 3) Try.underlying91 rfl sz3 rfl rfl) (fun _ _ => rfl) (Ent.sep enn) ?_) | (refine Hd.takeH 7 rfl (by kernel_rfl) (by kernel_rfl) (by kernel_rfl) (by kernel_rfl) (y_fieldR (q := 4) (ft := 3) Try.underlying91 rfl sz3 rfl rfl) (fun _ _ => rfl) (Ent.sep enn) ?_)
            first | (refine Hd.takeH 8 rfl (by kernel_rfl) (by kernel_rfl) (by kernel_rfl) (by kernel_rfl) (y_load1 ag3 rfl (Rd.pt1 pkk (by (first | rfl)))) (fun _ _ => rfl) (Ent.sep enn) ?_) | (refine Hd.takeH 8 rfl (by kernel_rfl) (by kernel_rfl) (by kernel_rfl) (by kernel_rfl) (y_load1 ag3 rfl (Rd.seg1 pkk (by (first | rfl)))) (fun _ _ => rfl) (Ent.sep enn) ?_) | (refine Hd.takeH 8 rfl (by kernel_rfl) (by kernel_rfl) (by kernel_rfl) (by kernel_rfl) (y_load1 ag3 rfl (Rd.segK1 pkk (by decide) (by (first | rfl)))) (fun _ _ => rfl) (Ent.sep enn) ?_) | (refine Hd.takeH 8 rfl (by kernel_rfl) (by kernel_rfl) (by kernel_rfl) (by kernel_rfl) (y_loadR1 ag3 rfl (by (first | exact RdS.own pkk)) (by (first | rfl))) (fun _ _ => rfl) (Ent.sep enn) ?_)
            refine Hd.onlyH 4 rfl (by kernel_rfl) ?_
            refine Hd.callE rfl fk41 (chLen _ b (2 + 0 * 8 + 0) (addA (x.s 0).c bs)) (Ent.sep enn) ?_
            intro _
            refine Hd.nil ?_
            refine Hd.thenN ?_
            refine Hd.heldK (J := (fun j => !(([1000] : List Nat).contains j))) (i := 4) (Ent.sep enn) ?_
            refine Hd.takeH 9 rfl (by kernel_rfl) (by kernel_rfl) (by kernel_rfl) (by kernel_rfl) (y_geq rfl rfl) (fun _ _ => rfl) (Ent.sep enn) ?_
            refine Hd.takeH 10 rfl (by kernel_rfl) (by kernel_rfl) (by kernel_rfl) (by kernel_rfl) (y_nilp rfl) (fun _ _ => rfl) (Ent.sep enn) ?_
            first | (refine Hd.takeH 11 rfl (by kernel_rfl) (by kernel_rfl) (by kernel_rfl) (by kernel_rfl) (y_field' (q := 0) (ft := 4) Try.underlying49 rfl sz4 rfl rfl) (fun _ _ => rfl) (Ent.sep enn) ?_) | (refine Hd.takeH 11 rfl (by kernel_rfl) (by kernel_rfl) (by kernel_rfl) (by kernel_rfl) (y_fieldR (q := 0) (ft := 4) Try.underlying49 rfl sz4 rfl rfl) (fun _ _ => rfl) (Ent.sep enn) ?_)
            refine Hd.onlyH 12 rfl (by kernel_rfl) ?_
            first | (refine Hd.store1 sz4 rfl rfl rfl pkk (by first | decide | (simp; done) | (simp; omega)) ?_) | (refine Hd.storeG1 sz4 rfl rfl rfl pkk (by first | decide | (simp; done) | (simp; omega)) ?_) | (refine Hd.storeO1 sz4 rfl rfl rfl pkk (by first | omega | (simp; done) | (simp; omega)) ?_) | (refine Hd.storeK1 sz4 rfl rfl rfl pkk (by decide) (by first | decide | (simp; done) | (simp; omega)) ?_)
            try simp only [List.set_cons_zero, List.set_cons_succ]
            refine Hd.nil ?_
            refine Hd.thenN ?_
            refine Hd.heldK (J := (fun j => !(([1000] : List Nat).contains j))) (i := 12) (Ent.sep enn) ?_
            refine Hd.endH (by kernel_rfl) ?_
            refine Hd.slots [(0, _), (1, _)] ⟨rfl, rfl, trivial⟩ ?_
            refine Hd.toK hK12 ?_
            refine Hd.region ?_
            refine Hd.yv (y_move rfl) ?_
            refine Hd.yv (y_move rfl) ?_
            refine Hd.callE rfl fk39 (set_ct _ b 0 (by omega) { x.s 0 with c := addA (x.s 0).c bs } now hn (ht 0 (by omega)).1) (Ent.sep enn) ?_
            intro _
            refine Hd.nil ?_
            refine Hd.slots [] trivial ?_
            refine Hd.inB ?_
            clear hK1 hK2 hK4 hK5 hK6 hK7 hK8 hK9 hK10 hK11 hK12
            rw [show readS ⟨x, w, t⟩ now most = ⟨x.up 0 (getF now bs), w', { t with i := (bs.length : Int), r := decide (((addA (x.s 0).c bs).length : Int) ≥ (x.s 0).low) }⟩ from (hS (by omega)).trans <| (if_neg (by rw [hc2]; simp)).trans ((if_neg hc3).trans (if_neg (by simpa using hc4)))]
            exact Hd.end0 rfl () rfl (fun q s => buf_put (fd := x.fd) (x' := x.up 0 (getF now bs)) (s0 := setA 0 now { x.s 0 with c := addA (x.s 0).c bs }) (s1 := x.s 1) rfl rfl rfl q (Ent.sep (.pick pkk (.pick pkk (.pick pkk (.pick pkk (.pick pkk (.pick pkk (.pick pkk (.eq pkk (pt_eq (by rfl)) enn)))))))) q s))
end Bu
end Go.Proofs.Ytmpemhbfgbochaa
namespace Go.Proofs.Ytmpemhbfgbochaa
set_option linter.unusedSimpArgs false
set_option linter.unusedVariables false
set_option linter.unnecessarySimpa false
open Go.RX Fx
namespace Bu
open Wo
set_option maxRecDepth 8000
def offA (s : SdA) (much : Int) : List UInt8 := Bc.cpy s.c 0 (min much 4096)
abbrev putF (now n : Int) (s : SdA) : SdA := setA 1 now { s with c := s.c.drop n.toNat }
def wrP (σ : StA) (now : Int) (r : (Int × Int) × WA) : StA :=
  if r.1.2 = 0 then ⟨σ.x.up 1 (putF now r.1.1), r.2, { σ.t with o := r.1.1, w := decide (((((σ.x.s 1).c.drop r.1.1.toNat).length : Nat) : Int) ≤ (σ.x.s 1).low) }⟩
  else if r.1.2 = 113 then ⟨σ.x, r.2, σ.t⟩
  else ⟨σ.x.up 1 fun s => stopF s, r.2, stopT σ.t 34 r.1.2⟩
def writeS (σ : StA) (now much : Int) : StA := if (offA (σ.x.s 1) much).length = 0 then σ else wrP σ now (writeR σ.w σ.x.fd (offA (σ.x.s 1) much))
theorem writeR_le (w : WA) (fd : Int) (bs : List UInt8) : (writeR w fd bs).1.1 ≤ (bs.length : Int) := by
  unfold writeR
  repeat' split
  all_goals first
    | (dsimp only; omega)
    | (dsimp only; unfold putN; omega)
set_option maxHeartbeats 2000000 in
theorem write_ct (L : List SP) (b wb bt : Nat) (x : BfA) (w : WA) (t : ToA) (ht : TmOk x) (now much : Int) (hn : InK .u64 now) (hm : InK .i64 much) : Ct Try.prog 43 #[.pointer (some ⟨b, 0, none⟩), .int .u64 now, .int .i64 much, .pointer (some ⟨bt, 0, none⟩)] (BufP b wb x :: WorldP wb w :: ToP bt t :: L) (fun _ : Unit => .tuple #[]) (fun _ : Unit => BufP b wb (writeS ⟨x, w, t⟩ now much).x :: WorldP wb (writeS ⟨x, w, t⟩ now much).w :: ToP bt (writeS ⟨x, w, t⟩ now much).t :: L) := by
  refine Ct.of (vs := [.pointer (some ⟨b, 0, none⟩), .int .u64 now, .int .i64 much, .pointer (some ⟨bt, 0, none⟩)]) Try.func43 rfl rfl [(0, .pointer (some ⟨b, 0, none⟩)), (1, .int .u64 now), (2, .int .i64 much), (3, .pointer (some ⟨bt, 0, none⟩))] (by repeat (first | exact trivial | refine ⟨rfl, ?_⟩)) ?_
  intro E
  show Hd E 71 _ _ _ _
  simp only [InK] at hm
  refine Hd.bufK .here 1 (by omega) ?_
  refine Hd.chB (b := b) (o := 2 + 1 * 8 + 0) pkk (fun hcl => ?_)
  have hol : (offA (x.s 1) much).length ≤ 4096 := by
    unfold offA Bc.cpy
    split
    · simp
    · rw [List.length_take]; omega
  have hS : ¬ (offA (x.s 1) much).length = 0 → writeS ⟨x, w, t⟩ now much = wrP ⟨x, w, t⟩ now (writeR w x.fd (offA (x.s 1) much)) := fun h => if_neg h
  have hle := writeR_le w x.fd (offA (x.s 1) much)
  obtain ⟨⟨⟨n, ec⟩, w'⟩, hrr⟩ : ∃ rr, writeR w x.fd (offA (x.s 1) much) = rr := ⟨_, rfl⟩
  rw [hrr] at hS hle
  dsimp only at hle
  obtain ⟨bs, hbs⟩ : ∃ bs, offA (x.s 1) much = bs := ⟨_, rfl⟩
  rw [hbs] at hS hle hol hrr
  refine Hd.seq (fun K1 hK1 => ?_)
  refine Hd.region ?_
  refine Hd.yv (y_move rfl) ?_
  refine Hd.yv (y_nilp rfl) ?_
  first | (refine Hd.yv (y_field' (q := 2) (ft := 92) Try.underlying94 rfl sz92 rfl rfl) ?_) | (refine Hd.yv (y_fieldR (q := 2) (ft := 92) Try.underlying94 rfl sz92 rfl rfl) ?_)
  refine Hd.yv (y_idxA Try.underlying92 sz91 rfl rfl (by first | omega | decide)) ?_
  refine Hd.yv (y_assign rfl) ?_
  refine Hd.nil ?_
  refine Hd.slots [(0, _), (1, _), (2, _), (3, _), (8, _)] ⟨rfl, rfl, rfl, rfl, rfl, trivial⟩ ?_
  refine Hd.toK hK1 ?_
  refine Hd.seq (fun K2 hK2 => ?_)
  refine Hd.region ?_
  refine Hd.yv (y_move rfl) ?_
  refine Hd.yv (y_nilp rfl) ?_
  first | (refine Hd.yv (y_field' (q := 0) (ft := 89) Try.underlying91 rfl sz89 rfl rfl) ?_) | (refine Hd.yv (y_fieldR (q := 0) (ft := 89) Try.underlying91 rfl sz89 rfl rfl) ?_)
  refine Hd.yv (y_move rfl) ?_
  refine Hd.yv (y_min rfl rfl) ?_
  refine Hd.callE rfl fk63 (chCopy _ b (2 + 1 * 8 + 0) (x.s 1).c 0 (min much 4096) (by simp [InK]) (by simp only [InK]; omega)) (Ent.sep enn) ?_
  rintro ⟨ad, c⟩
  dsimp only
  rw [show Bc.cpy (x.s 1).c 0 (min much 4096) = bs from hbs]
  refine Hd.yv (y_assign rfl) ?_
  refine Hd.nil ?_
  refine Hd.slots [(0, _), (1, _), (3, _), (8, _), (9, _)] ⟨rfl, rfl, rfl, rfl, rfl, trivial⟩ ?_
  refine Hd.toK hK2 ?_
  refine Hd.seq (fun K3 hK3 => ?_)
  refine Hd.seq (fun K4 hK4 => ?_)
  refine Hd.region ?_
  refine Hd.yv (y_move rfl) ?_
  refine Hd.yv (y_len Try.underlying39 rfl) ?_
  first | (refine Hd.yv (y_eqlT rfl rfl) ?_) | (refine Hd.yv (y_eql rfl rfl) ?_)
  refine Hd.nil ?_
  refine Hd.slots [(0, _), (1, _), (3, _), (8, _), (9, _), (24, _)] ⟨rfl, rfl, rfl, rfl, rfl, rfl, trivial⟩ ?_
  refine Hd.toK hK4 ?_
  refine Hd.cond rfl (fun hc0 => ?_) (fun hc0 => ?_)
  ·
    try simp only [decide_eq_true_eq, decide_eq_false_iff_not, Bool.and_eq_true, Bool.or_eq_true, Bool.and_eq_false_iff, Bool.or_eq_false_iff, Bool.not_eq_true', Bool.not_eq_false', Bool.not_eq_true, Bool.not_eq_false, Int.not_lt, Int.not_le, Decidable.not_not, ne_eq] at hc0
    refine Hd.ret ?_
    refine Hd.thenRet ?_
    clear hK1 hK2 hK3 hK4
    rw [show writeS ⟨x, w, t⟩ now much = ⟨x, w, t⟩ from if_pos (by show (offA (x.s 1) much).length = 0; rw [hbs]; omega)]
    exact Hd.ret0 rfl () rfl (fun q s => buf_backK (k := 1) (by omega) q (Ent.sep enn q s))
  ·
    try simp only [decide_eq_true_eq, decide_eq_false_iff_not, Bool.and_eq_true, Bool.or_eq_true, Bool.and_eq_false_iff, Bool.or_eq_false_iff, Bool.not_eq_true', Bool.not_eq_false', Bool.not_eq_true, Bool.not_eq_false, Int.not_lt, Int.not_le, Decidable.not_not, ne_eq] at hc0
    refine Hd.skip ?_
    refine Hd.toK hK3 ?_
    refine Hd.seq (fun K5 hK5 => ?_)
    refine Hd.ownCap pkk (fun hmc => ?_)
    refine Hd.drawsH ([BfH b wb x.fd]) (fun _ => true) mixed ?_
    simp only [List.length, Nat.zero_add, Nat.reduceAdd]
    refine Hd.takeH 0 rfl (by kernel_rfl) (by kernel_rfl) (by kernel_rfl) (by kernel_rfl) (y_move rfl) (fun _ _ => rfl) (Ent.sep enn) ?_
    refine Hd.takeH 1 rfl (by kernel_rfl) (by kernel_rfl) (by kernel_rfl) (by kernel_rfl) (y_nilp rfl) (fun _ _ => rfl) (Ent.sep enn) ?_
    first | (refine Hd.takeH 2 rfl (by kernel_rfl) (by kernel_rfl) (by kernel_rfl) (by kernel_rfl) (y_field' (q := 0) (ft := 25) Try.underlying94 rfl sz25 rfl rfl) (fun _ _ => rfl) (Ent.sep enn) ?_) | (refine Hd.takeH 2 rfl (by kernel_rfl) (by kernel_rfl) (by kernel_rfl) (by kernel_rfl) (y_fieldR (q := 0) (ft := 25) Try.underlying94 rfl sz25 rfl rfl) (fun _ _ => rfl) (Ent.sep enn) ?_)
    first | (refine Hd.takeH 3 rfl (by kernel_rfl) (by kernel_rfl) (by kernel_rfl) (by kernel_rfl) (y_load1 ag25 rfl (Rd.pt1 pkk (by (first | rfl)))) (fun _ _ => rfl) (Ent.sep enn) ?_) | (refine Hd.takeH 3 rfl (by kernel_rfl) (by kernel_rfl) (by kernel_rfl) (by kernel_rfl) (y_load1 ag25 rfl (Rd.seg1 pkk (by (first | rfl)))) (fun _ _ => rfl) (Ent.sep enn) ?_) | (refine Hd.takeH 3 rfl (by kernel_rfl) (by kernel_rfl) (by kernel_rfl) (by kernel_rfl) (y_load1 ag25 rfl (Rd.segK1 pkk (by decide) (by (first | rfl)))) (fun _ _ => rfl) (Ent.sep enn) ?_) | (refine Hd.takeH 3 rfl (by kernel_rfl) (by kernel_rfl) (by kernel_rfl) (by kernel_rfl) (y_loadR1 ag25 rfl (by (first | exact RdS.own pkk)) (by (first | rfl))) (fun _ _ => rfl) (Ent.sep enn) ?_)
    refine Hd.takeH 4 rfl (by kernel_rfl) (by kernel_rfl) (by kernel_rfl) (by kernel_rfl) (y_move rfl) (fun _ _ => rfl) (Ent.sep enn) ?_
    refine Hd.takeH 5 rfl (by kernel_rfl) (by kernel_rfl) (by kernel_rfl) (by kernel_rfl) (y_nilp rfl) (fun _ _ => rfl) (Ent.sep enn) ?_
    first | (refine Hd.takeH 6 rfl (by kernel_rfl) (by kernel_rfl) (by kernel_rfl) (by kernel_rfl) (y_field' (q := 1) (ft := 3) Try.underlying94 rfl sz3 rfl rfl) (fun _ _ => rfl) (Ent.sep enn) ?_) | (refine Hd.takeH 6 rfl (by kernel_rfl) (by kernel_rfl) (by kernel_rfl) (by kernel_rfl) (y_fieldR (q := 1) (ft := 3) Try.underlying94 rfl sz3 rfl rfl) (fun _ _ => rfl) (Ent.sep enn) ?_)
    first | (refine Hd.takeH 7 rfl (by kernel_rfl) (by kernel_rfl) (by kernel_rfl) (by kernel_rfl) (y_load1 ag3 rfl (Rd.pt1 pkk (by (first | rfl)))) (fun _ _ => rfl) (Ent.sep enn) ?_) | (refine Hd.takeH 7 rfl (by kernel_rfl) (by kernel_rfl) (by kernel_rfl) (by kernel_rfl) (y_load1 ag3 rfl (Rd.seg1 pkk (by (first | rfl)))) (fun _ _ => rfl) (Ent.sep enn) ?_) | (refine Hd.takeH 7 rfl (by kernel_rfl) (by kernel_rfl) (by kernel_rfl) (by kernel_rfl) (y_load1 ag3 rfl (Rd.segK1 pkk (by decide) (by (first | rfl)))) (fun _ _ => rfl) (Ent.sep enn) ?_) | (refine Hd.takeH 7 rfl (by kernel_rfl) (by kernel_rfl) (by kernel_rfl) (by kernel_rfl) (y_loadR1 ag3 rfl (by (first | exact RdS.own pkk)) (by (first | rfl))) (fun _ _ => rfl) (Ent.sep enn) ?_)
    refine Hd.takeH 8 rfl (by kernel_rfl) (by kernel_rfl) (by kernel_rfl) (by kernel_rfl) (y_move rfl) (fun _ _ => rfl) (Ent.sep enn) ?_
    refine Hd.onlyH 9 rfl (by kernel_rfl) ?_
    refine Hd.callE rfl fk24 (wwrite_ct _ wb w x.fd ad bs.length c bs rfl ?hA (by omega) hmc) (Ent.sep enn) ?_
    case hA => exact RdS.own (ad := ad) pkk
    intro _
    rw [hrr]
    dsimp only
    refine Hd.nil ?_
    refine Hd.thenN ?_
    refine Hd.heldK (J := (fun _ => true)) (i := 9) (Ent.sep enn) ?_
    refine Hd.takeH 10 rfl (by kernel_rfl) (by kernel_rfl) (by kernel_rfl) (by kernel_rfl) (y_move rfl) (fun _ _ => rfl) (Ent.sep enn) ?_
    refine Hd.takeH 11 rfl (by kernel_rfl) (by kernel_rfl) (by kernel_rfl) (by kernel_rfl) (y_extract rfl rfl) (fun _ _ => rfl) (Ent.sep enn) ?_
    refine Hd.takeH 12 rfl (by kernel_rfl) (by kernel_rfl) (by kernel_rfl) (by kernel_rfl) (y_extract rfl rfl) (fun _ _ => rfl) (Ent.sep enn) ?_
    refine Hd.takeH 13 rfl (by kernel_rfl) (by kernel_rfl) (by kernel_rfl) (by kernel_rfl) (y_assign rfl) (fun _ _ => rfl) (Ent.sep enn) ?_
    refine Hd.takeH 14 rfl (by kernel_rfl) (by kernel_rfl) (by kernel_rfl) (by kernel_rfl) (y_assign rfl) (fun _ _ => rfl) (Ent.sep enn) ?_
    refine Hd.endH (by kernel_rfl) ?_
    refine Hd.slots [(0, _), (1, _), (3, _), (8, _), (10, _), (11, _)] ⟨rfl, rfl, rfl, rfl, rfl, rfl, trivial⟩ ?_
    refine Hd.toK hK5 ?_
    refine Hd.seq (fun K6 hK6 => ?_)
    refine Hd.region ?_
    refine Hd.yv (y_move rfl) ?_
    refine Hd.nil ?_
    refine Hd.slots [(0, _), (1, _), (3, _), (8, _), (10, _), (11, _), (38, _)] ⟨rfl, rfl, rfl, rfl, rfl, rfl, rfl, trivial⟩ ?_
    refine Hd.toK hK6 ?_
    refine Hd.block ?_
    refine Hd.seq (fun K7 hK7 => ?_)
    refine Hd.region ?_
    first | (refine Hd.yv (y_eqlT rfl rfl) ?_) | (refine Hd.yv (y_eql rfl rfl) ?_)
    refine Hd.yv (y_assign rfl) ?_
    refine Hd.nil ?_
    refine Hd.slots [(0, _), (1, _), (3, _), (8, _), (10, _), (11, _), (38, _), (43, _)] ⟨rfl, rfl, rfl, rfl, rfl, rfl, rfl, rfl, trivial⟩ ?_
    refine Hd.toK hK7 ?_
    refine Hd.cond rfl (fun hc1 => ?_) (fun hc1 => ?_)
    ·
      try simp only [decide_eq_true_eq, decide_eq_false_iff_not, Bool.and_eq_true, Bool.or_eq_true, Bool.and_eq_false_iff, Bool.or_eq_false_iff, Bool.not_eq_true', Bool.not_eq_false', Bool.not_eq_true, Bool.not_eq_false, Int.not_lt, Int.not_le, Decidable.not_not, ne_eq] at hc1
      refine Hd.seq (fun K8 hK8 => ?_)
      refine Hd.region ?_
      refine Hd.yv (y_move rfl) ?_
      refine Hd.yv (y_nilp rfl) ?_
      first | (refine Hd.yv (y_field' (q := 0) (ft := 89) Try.underlying91 rfl sz89 rfl rfl) ?_) | (refine Hd.yv (y_fieldR (q := 0) (ft := 89) Try.underlying91 rfl sz89 rfl rfl) ?_)
      refine Hd.yv (y_move rfl) ?_
      refine Hd.callE rfl fk64 (chDrain _ b (2 + 1 * 8 + 0) (x.s 1).c n (by omega)) (Ent.sep enn) ?_
      intro _
      refine Hd.nil ?_
      refine Hd.slots [(0, _), (1, _), (3, _), (8, _), (10, _)] ⟨rfl, rfl, rfl, rfl, rfl, trivial⟩ ?_
      refine Hd.toK hK8 ?_
      refine Hd.seq (fun K9 hK9 => ?_)
      refine Hd.region ?_
      refine Hd.yv (y_move rfl) ?_
      refine Hd.yv (y_move rfl) ?_
      refine Hd.yv (y_nilp rfl) ?_
      first | (refine Hd.yv (y_field' (q := 5) (ft := 3) Try.underlying49 rfl sz3 rfl rfl) ?_) | (refine Hd.yv (y_fieldR (q := 5) (ft := 3) Try.underlying49 rfl sz3 rfl rfl) ?_)
      first | (refine Hd.store1 sz3 rfl rfl rfl pkk (by first | decide | (simp; done) | (simp; omega)) ?_) | (refine Hd.storeG1 sz3 rfl rfl rfl pkk (by first | decide | (simp; done) | (simp; omega)) ?_) | (refine Hd.storeO1 sz3 rfl rfl rfl pkk (by first | omega | (simp; done) | (simp; omega)) ?_) | (refine Hd.storeK1 sz3 rfl rfl rfl pkk (by decide) (by first | decide | (simp; done) | (simp; omega)) ?_)
      try simp only [List.set_cons_zero, List.set_cons_succ]
      refine Hd.nil ?_
      refine Hd.slots [(0, _), (1, _), (3, _), (8, _)] ⟨rfl, rfl, rfl, rfl, trivial⟩ ?_
      refine Hd.toK hK9 ?_
      refine Hd.seq (fun K10 hK10 => ?_)
      refine Hd.drawsH ([segK b (2 + 1 * 8) 2 (encS (x.s 1))]) (fun j => !(([1000] : List Nat).contains j)) mixed ?_
      simp only [List.length, Nat.zero_add, Nat.reduceAdd]
      refine Hd.takeH 0 rfl (by kernel_rfl) (by kernel_rfl) (by kernel_rfl) (by kernel_rfl) (y_move rfl) (fun _ _ => rfl) (Ent.sep enn) ?_
      refine Hd.takeH 1 rfl (by kernel_rfl) (by kernel_rfl) (by kernel_rfl) (by kernel_rfl) (y_move rfl) (fun _ _ => rfl) (Ent.sep enn) ?_
      refine Hd.takeH 2 rfl (by kernel_rfl) (by kernel_rfl) (by kernel_rfl) (by kernel_rfl) (y_nilp rfl) (fun _ _ => rfl) (Ent.sep enn) ?_
      first | (refine Hd.takeH 3 rfl (by kernel_rfl) (by kernel_rfl) (by kernel_rfl) (by kernel_rfl) (y_field' (q := 0) (ft := 89) Try.underlying91 rfl sz89 rfl rfl) (fun _ _ => rfl) (Ent.sep enn) ?_) | (refine Hd.takeH 3 rfl (by kernel_rfl) (by kernel_rfl) (by kernel_rfl) (by kernel_rfl) (y_fieldR (q := 0) (ft := 89) Try.underlying91 rfl sz89 rfl rfl) (fun _ _ => rfl) (Ent.sep enn) ?_)
      refine Hd.takeH 5 rfl (by kernel_rfl) (by kernel_rfl) (by kernel_rfl) (by kernel_rfl) (y_move rfl) (fun _ _ => rfl) (Ent.sep enn) ?_
      refine Hd.takeH 6 rfl (by kernel_rfl) (by kernel_rfl) (by kernel_rfl) (by kernel_rfl) (y_nilp rfl) (fun _ _ => rfl) (Ent.sep enn) ?_
      first | (refine Hd.takeH 7 rfl (by kernel_rfl) (by kernel_rfl) (by kernel_rfl) (by kernel_rfl) (y_field' (q := 4) (ft := 3) Try.underlying91 rfl sz3 rfl rfl) (fun _ _ => rfl) (Ent.sep enn) ?_) | (refine Hd.takeH 7 rfl (by kernel_rfl) (by kernel_rfl) (by kernel_rfl) (by kernel_rfl) (y_fieldR (q := 4) (ft := 3) Try.underlying91 rfl sz3 rfl rfl) (fun _ _ => rfl) (Ent.sep enn) ?_)
      first | (refine Hd.takeH 8 rfl (by kernel_rfl) (by kernel_rfl) (by kernel_rfl) (by kernel_rfl) (y_load1 ag3 rfl (Rd.pt1 pkk (by (first | rfl)))) (fun _ _ => rfl) (Ent.sep enn) ?_) | (refine Hd.takeH 8 rfl (by kernel_rfl) (by kernel_rfl) (by kernel_rfl) (by kernel_rfl) (y_load1 ag3 rfl (Rd.seg1 pkk (by (first | rfl)))) (fun _ _ => rfl) (Ent.sep enn) ?_) | (refine Hd.takeH 8 rfl (by kernel_rfl) (by kernel_rfl) (by kernel_rfl) (by kernel_rfl) (y_load1 ag3 rfl (Rd.segK1 pkk (by decide) (by (first | rfl)))) (fun _ _ => rfl) (Ent.sep enn) ?_) | (refine Hd.takeH 8 rfl (by kernel_rfl) (by kernel_rfl) (by kernel_rfl) (by kernel_rfl) (y_loadR1 ag3 rfl (by (first | exact RdS.own pkk)) (by (first | rfl))) (fun _ _ => rfl) (Ent.sep enn) ?_)
      refine Hd.onlyH 4 rfl (by kernel_rfl) ?_
      refine Hd.callE rfl fk41 (chLen _ b (2 + 1 * 8 + 0) ((x.s 1).c.drop n.toNat)) (Ent.sep enn) ?_
      intro _
      refine Hd.nil ?_
      refine Hd.thenN ?_
      refine Hd.heldK (J := (fun j => !(([1000] : List Nat).contains j))) (i := 4) (Ent.sep enn) ?_
      refine Hd.takeH 9 rfl (by kernel_rfl) (by kernel_rfl) (by kernel_rfl) (by kernel_rfl) (y_leq rfl rfl) (fun _ _ => rfl) (Ent.sep enn) ?_
      refine Hd.takeH 10 rfl (by kernel_rfl) (by kernel_rfl) (by kernel_rfl) (by kernel_rfl) (y_nilp rfl) (fun _ _ => rfl) (Ent.sep enn) ?_
      first | (refine Hd.takeH 11 rfl (by kernel_rfl) (by kernel_rfl) (by kernel_rfl) (by kernel_rfl) (y_field' (q := 1) (ft := 4) Try.underlying49 rfl sz4 rfl rfl) (fun _ _ => rfl) (Ent.sep enn) ?_) | (refine Hd.takeH 11 rfl (by kernel_rfl) (by kernel_rfl) (by kernel_rfl) (by kernel_rfl) (y_fieldR (q := 1) (ft := 4) Try.underlying49 rfl sz4 rfl rfl) (fun _ _ => rfl) (Ent.sep enn) ?_)
      refine Hd.onlyH 12 rfl (by kernel_rfl) ?_
      first | (refine Hd.store1 sz4 rfl rfl rfl pkk (by first | decide | (simp; done) | (simp; omega)) ?_) | (refine Hd.storeG1 sz4 rfl rfl rfl pkk (by first | decide | (simp; done) | (simp; omega)) ?_) | (refine Hd.storeO1 sz4 rfl rfl rfl pkk (by first | omega | (simp; done) | (simp; omega)) ?_) | (refine Hd.storeK1 sz4 rfl rfl rfl pkk (by decide) (by first | decide | (simp; done) | (simp; omega)) ?_)
      try simp only [List.set_cons_zero, List.set_cons_succ]
      refine Hd.nil ?_
      refine Hd.thenN ?_
      refine Hd.heldK (J := (fun j => !(([1000] : List Nat).contains j))) (i := 12) (Ent.sep enn) ?_
      refine Hd.endH (by kernel_rfl) ?_
      refine Hd.slots [(0, _), (1, _)] ⟨rfl, rfl, trivial⟩ ?_
      refine Hd.toK hK10 ?_
      refine Hd.region ?_
      refine Hd.yv (y_move rfl) ?_
      refine Hd.yv (y_move rfl) ?_
      refine Hd.callE rfl fk39 (set_ct _ b 1 (by omega) { x.s 1 with c := (x.s 1).c.drop n.toNat } now hn (ht 1 (by omega)).1) (Ent.sep enn) ?_
      intro _
      refine Hd.nil ?_
      refine Hd.slots [] trivial ?_
      refine Hd.inB ?_
      clear hK1 hK2 hK3 hK4 hK5 hK6 hK7 hK8 hK9 hK10
      have hne : ¬ bs.length = 0 := by omega
      rw [show writeS ⟨x, w, t⟩ now much = ⟨x.up 1 (putF now n), w', { t with o := n, w := decide (((((x.s 1).c.drop n.toNat).length : Nat) : Int) ≤ (x.s 1).low) }⟩ from (hS hne).trans (if_pos hc1)]
      refine Hd.end0 rfl () rfl (fun q s => buf_putK (k := 1) (x := x) (s' := putF now n (x.s 1)) (by omega) q ?_)
      rw [bfL_up (by omega)]
      exact Ent.sep (.pick pkk (.pick pkk (.pick pkk (.pick pkk (.pick pkk (.pick pkk (.pick pkk (.eq pkk (pt_eq (by rfl)) enn)))))))) q s
    ·
      try simp only [decide_eq_true_eq, decide_eq_false_iff_not, Bool.and_eq_true, Bool.or_eq_true, Bool.and_eq_false_iff, Bool.or_eq_false_iff, Bool.not_eq_true', Bool.not_eq_false', Bool.not_eq_true, Bool.not_eq_false, Int.not_lt, Int.not_le, Decidable.not_not, ne_eq] at hc1
      refine Hd.seq (fun K11 hK11 => ?_)
      refine Hd.region ?_
      first | (refine Hd.yv (y_eqlT rfl rfl) ?_) | (refine Hd.yv (y_eql rfl rfl) ?_)
      refine Hd.yv (y_assign rfl) ?_
      refine Hd.nil ?_
      refine Hd.slots [(3, _), (8, _), (11, _), (69, _)] ⟨rfl, rfl, rfl, rfl, trivial⟩ ?_
      refine Hd.toK hK11 ?_
      refine Hd.cond rfl (fun hc2 => ?_) (fun hc2 => ?_)
      ·
        try simp only [decide_eq_true_eq, decide_eq_false_iff_not, Bool.and_eq_true, Bool.or_eq_true, Bool.and_eq_false_iff, Bool.or_eq_false_iff, Bool.not_eq_true', Bool.not_eq_false', Bool.not_eq_true, Bool.not_eq_false, Int.not_lt, Int.not_le, Decidable.not_not, ne_eq] at hc2
        refine Hd.skip ?_
        refine Hd.inB ?_
        clear hK1 hK2 hK3 hK4 hK5 hK6 hK7 hK11
        have hne : ¬ bs.length = 0 := by omega
        rw [show writeS ⟨x, w, t⟩ now much = ⟨x, w', t⟩ from (hS hne).trans ((if_neg hc1).trans (if_pos hc2))]
        exact Hd.end0 rfl () rfl (fun q s => buf_backK (k := 1) (by omega) q (Ent.sep enn q s))
      ·
        try simp only [decide_eq_true_eq, decide_eq_false_iff_not, Bool.and_eq_true, Bool.or_eq_true, Bool.and_eq_false_iff, Bool.or_eq_false_iff, Bool.not_eq_true', Bool.not_eq_false', Bool.not_eq_true, Bool.not_eq_false, Int.not_lt, Int.not_le, Decidable.not_not, ne_eq] at hc2
        refine Hd.region ?_
        refine Hd.yv (y_move rfl) ?_
        refine Hd.yv (y_move rfl) ?_
        refine Hd.yv (y_move rfl) ?_
        refine Hd.callE rfl fk62 (stop_ct _ b 1 bt (x.s 1) t 34 ec) (Ent.sep enn) ?_
        intro _
        refine Hd.nil ?_
        refine Hd.slots [] trivial ?_
        refine Hd.inB ?_
        clear hK1 hK2 hK3 hK4 hK5 hK6 hK7 hK11
        have hne : ¬ bs.length = 0 := by omega
        rw [show writeS ⟨x, w, t⟩ now much = ⟨x.up 1 fun s => stopF s, w', stopT t 34 ec⟩ from (hS hne).trans ((if_neg hc1).trans (if_neg hc2))]
        refine Hd.end0 rfl () rfl (fun q s => buf_putK (k := 1) (x := x) (s' := stopF (x.s 1)) (by omega) q ?_)
        rw [bfL_up (by omega)]
        exact Ent.sep enn q s
end Bu
end Go.Proofs.Ytmpemhbfgbochaa
namespace Go.Proofs.Ytmpemhbfgbochaa
set_option linter.unusedSimpArgs false
set_option linter.unusedVariables false
set_option linter.unnecessarySimpa false
open Go.RX Fx
namespace Bu
open Wo
set_option maxRecDepth 8000
theorem tm_stop {x : BfA} (h : TmOk x) (k : Nat) : TmOk (x.up k fun s => stopF s) := h.up fun s ha _ => ⟨ha, by show InK .u64 18446744073709551615; simp [InK]⟩
theorem tm_set {x : BfA} (h : TmOk x) (k : Nat) {now : Int} (hn : InK .u64 now) (f : SdA → List UInt8) : TmOk (x.up k fun s => setA k now { s with c := f s }) := h.up fun s ha _ => ⟨ha, atV_in (s := { s with c := f s }) hn ha⟩
theorem tm_read {σ : StA} (h : TmOk σ.x) {now : Int} (hn : InK .u64 now) (most : Int) : TmOk (readS σ now most).x := by
  unfold readS rdP
  repeat' split
  all_goals first
    | exact h
    | exact tm_stop h 0
    | exact tm_set h 0 hn (fun s => addA s.c _)
def stepM (x : BfA) (flags : Int) : Int := bits .and .i64 flags (wantsA x)
def stepR (x : BfA) (w : WA) (now flags most : Int) : StA := if bits .and .i64 (stepM x flags) 2 ≠ 0 then readS ⟨x, w, noT⟩ now most else ⟨x, w, noT⟩
def stepS (x : BfA) (w : WA) (now flags most much : Int) : StA := if bits .and .i64 (stepM x flags) 4 ≠ 0 then writeS (stepR x w now flags most) now much else stepR x w now flags most
theorem tm_stepR {x : BfA} (h : TmOk x) {now : Int} (hn : InK .u64 now) (w : WA) (flags most : Int) : TmOk (stepR x w now flags most).x := by
  unfold stepR
  split
  · exact tm_read h hn most
  · exact h
set_option maxHeartbeats 2000000 in
theorem step_ct (L : List SP) (b wb : Nat) (x : BfA) (w : WA) (ht : TmOk x) (hh : InK .i64 (x.s 0).high) (now flags most much : Int) (hn : InK .u64 now) (hm : most ≤ 9223372036854775807) (hmu : InK .i64 much) : Ct Try.prog 18 #[.pointer (some ⟨b, 0, none⟩), .int .u64 now, .int .i64 flags, .int .i64 most, .int .i64 much] (BufP b wb x :: WorldP wb w :: L) (fun _ : Unit => .agg (encT (stepS x w now flags most much).t).toArray) (fun _ : Unit => BufP b wb (stepS x w now flags most much).x :: WorldP wb (stepS x w now flags most much).w :: L) := by
  refine Ct.of (vs := [.pointer (some ⟨b, 0, none⟩), .int .u64 now, .int .i64 flags, .int .i64 most, .int .i64 much]) Try.func18 rfl rfl [(0, .pointer (some ⟨b, 0, none⟩)), (1, .int .u64 now), (2, .int .i64 flags), (3, .int .i64 most), (4, .int .i64 much)] (by repeat (first | exact trivial | refine ⟨rfl, ?_⟩)) ?_
  intro E
  show Hd E 32 _ _ _ _
  refine Hd.seq (fun K1 hK1 => ?_)
  refine Hd.region ?_
  refine Hd.alloc zr49 (fun b10 => ?_)
  refine Hd.nil ?_
  refine Hd.slots [(0, _), (1, _), (2, _), (3, _), (4, _), (10, _)] ⟨rfl, rfl, rfl, rfl, rfl, rfl, trivial⟩ ?_
  refine Hd.toK hK1 ?_
  refine Hd.seq (fun K2 hK2 => ?_)
  refine Hd.region ?_
  refine Hd.alloc zr49 (fun b11 => ?_)
  refine Hd.nil ?_
  refine Hd.slots [(0, _), (1, _), (2, _), (3, _), (4, _), (10, _), (11, _)] ⟨rfl, rfl, rfl, rfl, rfl, rfl, rfl, trivial⟩ ?_
  refine Hd.toK hK2 ?_
  refine Hd.seq (fun K3 hK3 => ?_)
  refine Hd.region ?_
  refine Hd.yv (y_move rfl) ?_
  refine Hd.yv (y_move rfl) ?_
  refine Hd.callE rfl fk26 (wants_ct _ b wb x) (Ent.sep enn) ?_
  intro _
  refine Hd.yv (y_to (v' := .int .i64 (stepM x flags)) (y_and rfl rfl) (by rfl)) ?_
  refine Hd.yv (y_assign rfl) ?_
  refine Hd.nil ?_
  refine Hd.slots [(0, _), (1, _), (3, _), (4, _), (10, _), (11, _), (12, _)] ⟨rfl, rfl, rfl, rfl, rfl, rfl, rfl, trivial⟩ ?_
  refine Hd.toK hK3 ?_
  refine Hd.heap (ToP b11 noT :: pt b10 (encT noT) 49 :: BufP b wb x :: WorldP wb w :: L) (fun q s => Ent.sep (.eq pkk (pt_eq (by rfl)) (.eq pkk (pt_eq (by rfl)) enn)) q s) ?_
  refine Hd.cutK (ι := Unit) [(0, _), (1, _), (4, _), (10, _), (11, _), (12, _)] (fun _ => []) (fun _ => BufP b wb (stepR x w now flags most).x :: WorldP wb (stepR x w now flags most).w :: ToP b11 (stepR x w now flags most).t :: pt b10 (encT noT) 49 :: L) ?_ ?_ ⟨rfl, rfl, rfl, rfl, rfl, rfl, trivial⟩
  ·
    refine Hd.seq (fun K4 hK4 => ?_)
    refine Hd.region ?_
    refine Hd.yv (y_move rfl) ?_
    refine Hd.yv (y_and rfl rfl) ?_
    refine Hd.yv (y_neq rfl rfl) ?_
    refine Hd.nil ?_
    refine Hd.slots [(0, _), (1, _), (3, _), (4, _), (10, _), (11, _), (12, _), (19, _)] ⟨rfl, rfl, rfl, rfl, rfl, rfl, rfl, rfl, trivial⟩ ?_
    refine Hd.toK hK4 ?_
    refine Hd.cond rfl (fun hc0 => ?_) (fun hc0 => ?_)
    ·
      try simp only [decide_eq_true_eq, decide_eq_false_iff_not, Bool.and_eq_true, Bool.or_eq_true, Bool.and_eq_false_iff, Bool.or_eq_false_iff, Bool.not_eq_true', Bool.not_eq_false', Bool.not_eq_true, Bool.not_eq_false, Int.not_lt, Int.not_le, Decidable.not_not, ne_eq] at hc0
      refine Hd.region ?_
      refine Hd.yv (y_move rfl) ?_
      refine Hd.yv (y_move rfl) ?_
      refine Hd.yv (y_move rfl) ?_
      refine Hd.callE rfl fk42 (read_ct _ b wb b11 x w noT ht now most hn hm hh) (Ent.sep enn) ?_
      intro _
      refine Hd.nil ?_
      refine Hd.slots [(0, _), (1, _), (4, _), (10, _), (11, _), (12, _)] ⟨rfl, rfl, rfl, rfl, rfl, rfl, trivial⟩ ?_
      clear hK1 hK2 hK3 hK4
      refine Hd.thenN ?_
      rw [show stepR x w now flags most = readS ⟨x, w, noT⟩ now most from if_pos hc0]
      exact Hd.meet () (by repeat (first | exact trivial | refine ⟨rfl, ?_⟩)) (Ent.sep enn)
    ·
      try simp only [decide_eq_true_eq, decide_eq_false_iff_not, Bool.and_eq_true, Bool.or_eq_true, Bool.and_eq_false_iff, Bool.or_eq_false_iff, Bool.not_eq_true', Bool.not_eq_false', Bool.not_eq_true, Bool.not_eq_false, Int.not_lt, Int.not_le, Decidable.not_not, ne_eq] at hc0
      refine Hd.skip ?_
      clear hK1 hK2 hK3 hK4
      refine Hd.thenN ?_
      rw [show stepR x w now flags most = ⟨x, w, noT⟩ from if_neg (fun h => h hc0)]
      exact Hd.meet () (by repeat (first | exact trivial | refine ⟨rfl, ?_⟩)) (Ent.sep enn)
  ·
    intro _
    refine Hd.cutK (ι := Unit) [(10, _), (11, _)] (fun _ => []) (fun _ => BufP b wb (stepS x w now flags most much).x :: WorldP wb (stepS x w now flags most much).w :: ToP b11 (stepS x w now flags most much).t :: pt b10 (encT noT) 49 :: L) ?_ ?_ ⟨rfl, rfl, trivial⟩
    ·
      refine Hd.seq (fun K5 hK5 => ?_)
      refine Hd.region ?_
      refine Hd.yv (y_move rfl) ?_
      refine Hd.yv (y_and rfl rfl) ?_
      refine Hd.yv (y_neq rfl rfl) ?_
      refine Hd.nil ?_
      refine Hd.slots [(0, _), (1, _), (4, _), (10, _), (11, _), (26, _)] ⟨rfl, rfl, rfl, rfl, rfl, rfl, trivial⟩ ?_
      refine Hd.toK hK5 ?_
      refine Hd.cond rfl (fun hc1 => ?_) (fun hc1 => ?_)
      ·
        try simp only [decide_eq_true_eq, decide_eq_false_iff_not, Bool.and_eq_true, Bool.or_eq_true, Bool.and_eq_false_iff, Bool.or_eq_false_iff, Bool.not_eq_true', Bool.not_eq_false', Bool.not_eq_true, Bool.not_eq_false, Int.not_lt, Int.not_le, Decidable.not_not, ne_eq] at hc1
        refine Hd.region ?_
        refine Hd.yv (y_move rfl) ?_
        refine Hd.yv (y_move rfl) ?_
        refine Hd.yv (y_move rfl) ?_
        refine Hd.callE rfl fk43 (write_ct _ b wb b11 (stepR x w now flags most).x (stepR x w now flags most).w (stepR x w now flags most).t (tm_stepR ht hn w flags most) now much hn hmu) (Ent.sep enn) ?_
        intro _
        refine Hd.nil ?_
        refine Hd.slots [(10, _), (11, _)] ⟨rfl, rfl, trivial⟩ ?_
        clear hK1 hK2 hK3 hK5
        refine Hd.thenN ?_
        rw [show stepS x w now flags most much = writeS (stepR x w now flags most) now much from if_pos hc1]
        exact Hd.meet () (by repeat (first | exact trivial | refine ⟨rfl, ?_⟩)) (Ent.sep enn)
      ·
        try simp only [decide_eq_true_eq, decide_eq_false_iff_not, Bool.and_eq_true, Bool.or_eq_true, Bool.and_eq_false_iff, Bool.or_eq_false_iff, Bool.not_eq_true', Bool.not_eq_false', Bool.not_eq_true, Bool.not_eq_false, Int.not_lt, Int.not_le, Decidable.not_not, ne_eq] at hc1
        refine Hd.skip ?_
        clear hK1 hK2 hK3 hK5
        refine Hd.thenN ?_
        rw [show stepS x w now flags most much = stepR x w now flags most from if_neg (fun h => h hc1)]
        exact Hd.meet () (by repeat (first | exact trivial | refine ⟨rfl, ?_⟩)) (Ent.sep enn)
    ·
      intro _
      refine Hd.seq (fun K6 hK6 => ?_)
      refine Hd.region ?_
      refine Hd.yv (y_loadn (us := encT (stepS x w now flags most much).t) ag49 rfl (Rd.pt pkk (fun j v e => by rw [Nat.zero_add]; exact e)) (by exact sz49)) ?_
      refine Hd.storeA (us := encT (stepS x w now flags most much).t) sz49 rfl rfl rfl (by simp [Value.oneCell']) pkk (by exact rfl) ?_
      refine Hd.nil ?_
      refine Hd.slots [(10, _)] ⟨rfl, trivial⟩ ?_
      refine Hd.toK hK6 ?_
      refine Hd.ret ?_
      clear hK1 hK2 hK3 hK6
      exact Hd.retC rfl () ag49 rfl (Rd.pt (us := encT (stepS x w now flags most much).t) pkk (fun j v e => by rw [Nat.zero_add]; exact e)) (by exact sz49) rfl (Ent.sep enn)
end Bu
end Go.Proofs.Ytmpemhbfgbochaa
namespace Go.Proofs.Ytmpemhbfgbochaa
set_option linter.unusedSimpArgs false
set_option linter.unusedVariables false
set_option linter.unnecessarySimpa false
open Go.RX Fx
namespace Bu
open Wo
set_option maxRecDepth 8000
def SOk (s : SdA) : Prop := (InK .u64 s.after ∧ InK .u64 s.at_) ∧ (0 ≤ s.low ∧ s.low ≤ 1048576) ∧ 0 ≤ s.high ∧ s.high ≤ 1048576
def BOk (x : BfA) : Prop := ∀ k, k < 2 → SOk (x.s k)
theorem BOk.tm {x : BfA} (h : BOk x) : TmOk x := fun k hk => (h k hk).1
theorem BOk.hi {x : BfA} (h : BOk x) : InK .i64 (x.s 0).high := by
  have := (h 0 (by omega)).2.2
  simp only [InK]; omega
theorem bok_up {x : BfA} (h : BOk x) {k : Nat} {f : SdA → SdA} (hf : ∀ s, SOk s → SOk (f s)) : BOk (x.up k f) := fun j hj => by
  by_cases e : j = k
  · subst e; rw [bup_at]; exact hf _ (h j hj)
  · rw [bup_ne _ _ e]; exact h j hj
theorem bok_eff {f : Nat → SdA → SdA} {x : BfA} (h : BOk x) (hf : ∀ k s, SOk s → SOk (f k s)) (ks : List Nat) : BOk (effB f x ks) := fun j hj => by
  show SOk (if j ∈ ks then f j (x.s j) else x.s j)
  split
  · exact hf _ _ (h j hj)
  · exact h j hj
theorem sok_nv {s : SdA} (h : SOk s) (on en : Bool) : SOk { s with on := on, ended := en, at_ := NV } := ⟨⟨h.1.1, by show InK .u64 18446744073709551615; simp [InK]⟩, h.2⟩
theorem sok_set {s : SdA} (h : SOk s) (k : Nat) {now : Int} (hn : InK .u64 now) (on : Bool) (c : List UInt8) : SOk (setA k now { s with on := on, c := c }) := ⟨⟨h.1.1, atV_in (s := { s with on := on, c := c }) hn h.1.1⟩, h.2⟩
theorem bok_new (fd : Int) : BOk (newB fd) := fun k hk => ⟨tm_new fd k hk, ⟨Int.le_refl 0, by show (0 : Int) ≤ _; omega⟩, Int.le_refl 0, by show (0 : Int) ≤ _; omega⟩
theorem bok_en {x : BfA} (h : BOk x) {now : Int} (hn : InK .u64 now) (sides : Int) : BOk (enB x now sides) := by
  unfold enB
  split
  · refine bok_eff h (fun k s hs => ?_) _
    show SOk (if s.on = true then s else setA k now { s with on := true })
    split
    · exact hs
    · exact sok_set hs k hn true s.c
  · exact h
theorem bok_mrk {x : BfA} (h : BOk x) (side low high : Int) : BOk (mrkB x side low high) := by
  unfold mrkB
  split
  · exact h
  · rename_i hb
    refine bok_eff (f := mrkF low high) h (fun k s hs => ⟨hs.1, ?_⟩) _
    unfold mrkBad at hb
    simp only [Bool.or_eq_true, Bool.and_eq_true, decide_eq_true_eq] at hb
    show (0 ≤ low ∧ low ≤ 1048576) ∧ 0 ≤ high ∧ high ≤ 1048576
    omega
theorem bok_read {σ : StA} (h : BOk σ.x) {now : Int} (hn : InK .u64 now) (most : Int) : BOk (readS σ now most).x := by
  unfold readS rdP
  repeat' split
  all_goals first
    | exact h
    | exact bok_up h fun s hs => sok_nv hs false true
    | exact bok_up h fun s hs => sok_set hs 0 hn s.on _
theorem bok_write {σ : StA} (h : BOk σ.x) {now : Int} (hn : InK .u64 now) (much : Int) : BOk (writeS σ now much).x := by
  unfold writeS wrP
  repeat' split
  all_goals first
    | exact h
    | exact bok_up h fun s hs => sok_nv hs false true
    | exact bok_up h fun s hs => sok_set hs 1 hn s.on _
theorem bok_stepR {x : BfA} (h : BOk x) {now : Int} (hn : InK .u64 now) (w : WA) (flags most : Int) : BOk (stepR x w now flags most).x := by
  unfold stepR
  split
  · exact bok_read h hn most
  · exact h
theorem bok_step {x : BfA} (h : BOk x) {now : Int} (hn : InK .u64 now) (w : WA) (flags most much : Int) : BOk (stepS x w now flags most much).x := by
  unfold stepS
  split
  · exact bok_write (bok_stepR h hn w flags most) hn much
  · exact bok_stepR h hn w flags most
theorem bok_put {x : BfA} (h : BOk x) {now : Int} (hn : InK .u64 now) (bs : List UInt8) : BOk (wrB x now bs) := by
  unfold wrB
  repeat' split
  · exact h
  · exact bok_up h fun s hs => sok_set hs 1 hn s.on _
  · exact bok_up h fun s hs => hs
theorem bok_get {x : BfA} (h : BOk x) (n : Int) : BOk (readB x n) := by
  unfold readB
  split
  · exact h
  · exact bok_up h fun s hs => hs
abbrev abc : List UInt8 := [97, 98, 99]
abbrev pairA (n : Nat) : WA := mkW newA 2 (halfW n 2)
abbrev alX1 : BfA := enB (newB 0) 0 2
abbrev alX2 : BfA := mrkB alX1 2 2 4
abbrev alW : WA := (writeR (pairA 8) 1 abc).2
abbrev alS : StA := stepS alX2 alW 0 2 99 99
theorem al_op : (readyR (pairA 8) 0).op = true := by decide +kernel
theorem al_3 : wantsA alX2 = 2 := by decide +kernel
theorem al_4 : encT alS.t = [.bool true, .bool false, .int .i64 0, .int .i64 0, .int .i64 3, .int .i64 0] := by rfl
theorem al_5 : wantsA alS.x = 2 := by decide +kernel
theorem al_k1 : BOk alX1 := bok_en (bok_new 0) (by simp [InK]) 2
theorem al_k2 : BOk alX2 := bok_mrk al_k1 2 2 4
set_option maxHeartbeats 2000000 in
theorem alive_ct (L : List SP) : Ct Try.prog 8 #[] (L) (fun _ : Unit => .bool true) (fun _ : Unit => L) := by
  refine Ct.of (vs := []) Try.func8 rfl rfl [] (by repeat (first | exact trivial | refine ⟨rfl, ?_⟩)) ?_
  intro E
  show Hd E 52 _ _ _ _
  refine Hd.seq (fun K1 hK1 => ?_)
  refine Hd.region ?_
  refine Hd.yv (y_assign rfl) ?_
  refine Hd.nil ?_
  refine Hd.slots [] trivial ?_
  refine Hd.toK hK1 ?_
  refine Hd.seq (fun K2 hK2 => ?_)
  refine Hd.region ?_
  refine Hd.callE rfl fk10 (wnew_ct _) (Ent.sep enn) ?_
  intro wb
  refine Hd.yv (y_assign rfl) ?_
  refine Hd.nil ?_
  refine Hd.slots [(1, _)] ⟨rfl, trivial⟩ ?_
  refine Hd.toK hK2 ?_
  refine Hd.seq (fun K3 hK3 => ?_)
  refine Hd.region ?_
  refine Hd.yv (y_move rfl) ?_
  refine Hd.callE rfl fk11 (pair_ct _ wb newA 8 (by decide) (by decide)) (Ent.sep enn) ?_
  intro _
  refine Hd.nil ?_
  refine Hd.slots [(1, _)] ⟨rfl, trivial⟩ ?_
  refine Hd.toK hK3 ?_
  refine Hd.seq (fun K4 hK4 => ?_)
  refine Hd.region ?_
  refine Hd.yv (y_move rfl) ?_
  refine Hd.callE rfl fk12 (bnew_ct _ wb (pairA 8) 0 al_op) (Ent.sep enn) ?_
  intro b
  refine Hd.yv (y_move rfl) ?_
  refine Hd.yv (y_extract rfl rfl) ?_
  refine Hd.yv (y_extract rfl rfl) ?_
  refine Hd.yv (y_assign rfl) ?_
  refine Hd.yv (y_assign rfl) ?_
  refine Hd.nil ?_
  refine Hd.slots [(1, _), (2, _), (3, _)] ⟨rfl, rfl, rfl, trivial⟩ ?_
  refine Hd.toK hK4 ?_
  refine Hd.seq (fun K5 hK5 => ?_)
  refine Hd.region ?_
  refine Hd.yv (y_move rfl) ?_
  refine Hd.callE rfl fk14 (enable_ct _ b wb (newB 0) (tm_new 0) 0 2 (by simp [InK])) (Ent.sep enn) ?_
  intro _
  refine Hd.yv (y_assign rfl) ?_
  refine Hd.nil ?_
  refine Hd.slots [(1, _), (2, _), (3, _), (4, _)] ⟨rfl, rfl, rfl, rfl, trivial⟩ ?_
  refine Hd.toK hK5 ?_
  refine Hd.seq (fun K6 hK6 => ?_)
  refine Hd.region ?_
  refine Hd.yv (y_move rfl) ?_
  refine Hd.callE rfl fk13 (marks_ct _ b wb alX1 2 2 4) (Ent.sep enn) ?_
  intro _
  refine Hd.yv (y_assign rfl) ?_
  refine Hd.nil ?_
  refine Hd.slots [(1, _), (2, _), (3, _), (4, _), (5, _)] ⟨rfl, rfl, rfl, rfl, rfl, trivial⟩ ?_
  refine Hd.toK hK6 ?_
  refine Hd.seq (fun K7 hK7 => ?_)
  refine Hd.region ?_
  refine Hd.yv (y_move rfl) ?_
  refine Hd.bslice (vs := [(0, _), (1, _), (2, _)]) rfl (by first | exact bs8_21 .. | kernel_rfl) (fun b21 => ?_)
  refine Hd.convSS (e := 5) (by kernel_rfl) rfl pkk rfl (by first | decide | (simp [maxLen])) ?_
  refine Hd.callE rfl fk24 (wwrite_ct _ wb (pairA 8) 1 (some ⟨b21, 0, none⟩) 3 3 abc rfl ?hD (by decide) (by decide)) (Ent.sep enn) ?_
  case hD => exact RdS.own (m := 3) (us := [.int .u8 97, .int .u8 98, .int .u8 99]) pkk
  intro _
  refine Hd.nil ?_
  refine Hd.slots [(2, _), (3, _), (4, _), (5, _)] ⟨rfl, rfl, rfl, rfl, trivial⟩ ?_
  refine Hd.toK hK7 ?_
  refine Hd.seq (fun K8 hK8 => ?_)
  refine Hd.region ?_
  refine Hd.yv (y_move rfl) ?_
  refine Hd.callE rfl fk26 (wants_ct _ b wb alX2) (Ent.sep enn) ?_
  intro _
  rw [al_3]
  refine Hd.yv (y_assign rfl) ?_
  refine Hd.nil ?_
  refine Hd.slots [(2, _), (3, _), (4, _), (5, _), (6, _)] ⟨rfl, rfl, rfl, rfl, rfl, trivial⟩ ?_
  refine Hd.toK hK8 ?_
  refine Hd.seq (fun K9 hK9 => ?_)
  refine Hd.region ?_
  refine Hd.yv (y_move rfl) ?_
  refine Hd.callE rfl fk18 (step_ct _ b wb alX2 alW al_k2.tm al_k2.hi 0 2 99 99 (by simp [InK]) (by decide) (by simp [InK])) (Ent.sep enn) ?_
  intro _
  rw [al_4]
  refine Hd.alloc zr49 (fun b7 => ?_)
  refine Hd.storeA (us := [.bool true, .bool false, .int .i64 0, .int .i64 0, .int .i64 3, .int .i64 0]) sz49 rfl rfl rfl (by simp [Value.oneCell']) pkk (by exact rfl) ?_
  refine Hd.nil ?_
  refine Hd.slots [(2, _), (3, _), (4, _), (5, _), (6, _), (7, _)] ⟨rfl, rfl, rfl, rfl, rfl, rfl, trivial⟩ ?_
  refine Hd.toK hK9 ?_
  refine Hd.seq (fun K10 hK10 => ?_)
  refine Hd.region ?_
  refine Hd.yv (y_move rfl) ?_
  first | (refine Hd.yv (y_eqlT rfl rfl) ?_) | (refine Hd.yv (y_eql rfl rfl) ?_)
  refine Hd.yv (y_to (v' := .bool true) (y_move rfl) (by rfl)) ?_
  refine Hd.yg rfl rfl (y_move rfl) ?_
  first | (refine Hd.yg rfl rfl (y_eqlT rfl rfl) ?_) | (refine Hd.yg rfl rfl (y_eql rfl rfl) ?_)
  first | (refine Hd.yv (y_pickT rfl rfl) ?_) | (refine Hd.yv (y_pickF rfl rfl) ?_) | (refine Hd.yv (y_pickb rfl rfl rfl) ?_) | (refine Hd.yv (y_pick rfl rfl rfl) ?_)
  refine Hd.yv (y_move rfl) ?_
  refine Hd.yg rfl rfl (y_move rfl) ?_
  first | (refine Hd.yg rfl rfl (y_eqlT rfl rfl) ?_) | (refine Hd.yg rfl rfl (y_eql rfl rfl) ?_)
  first | (refine Hd.yv (y_pickT rfl rfl) ?_) | (refine Hd.yv (y_pickF rfl rfl) ?_) | (refine Hd.yv (y_pickb rfl rfl rfl) ?_) | (refine Hd.yv (y_pick rfl rfl rfl) ?_)
  refine Hd.yv (y_move rfl) ?_
  refine Hd.yg rfl rfl (y_move rfl) ?_
  first | (refine Hd.yg rfl rfl (y_eqlT rfl rfl) ?_) | (refine Hd.yg rfl rfl (y_eql rfl rfl) ?_)
  first | (refine Hd.yv (y_pickT rfl rfl) ?_) | (refine Hd.yv (y_pickF rfl rfl) ?_) | (refine Hd.yv (y_pickb rfl rfl rfl) ?_) | (refine Hd.yv (y_pick rfl rfl rfl) ?_)
  refine Hd.yv (y_move rfl) ?_
  refine Hd.yg rfl rfl (y_loadn (us := [.bool true, .bool false, .int .i64 0, .int .i64 0, .int .i64 3, .int .i64 0]) ag49 rfl (Rd.pt pkk (fun j v e => by rw [Nat.zero_add]; exact e)) (by exact sz49)) ?_
  refine Hd.yg rfl rfl (y_build (vs := [(0, _), (4, _)]) rfl (by first | exact bd8_44 .. | kernel_rfl)) ?_
  refine Hd.yg rfl rfl (y_eql_agg rfl rfl eqt49 rfl ⟨rfl, rfl⟩) ?_
  first | (refine Hd.yv (y_pickT rfl rfl) ?_) | (refine Hd.yv (y_pickF rfl rfl) ?_) | (refine Hd.yv (y_pickb rfl rfl rfl) ?_) | (refine Hd.yv (y_pick rfl rfl rfl) ?_)
  refine Hd.yv (y_move rfl) ?_
  refine Hd.yg rfl rfl (y_move rfl) ?_
  refine Hd.unguard rfl rfl ?_
  refine Hd.callE rfl fk26 (wants_ct _ b wb alS.x) (Ent.sep enn) ?_
  intro _
  rw [al_5]
  first | (refine Hd.yg rfl rfl (y_eqlT rfl rfl) ?_) | (refine Hd.yg rfl rfl (y_eql rfl rfl) ?_)
  first | (refine Hd.yv (y_pickT rfl rfl) ?_) | (refine Hd.yv (y_pickF rfl rfl) ?_) | (refine Hd.yv (y_pickb rfl rfl rfl) ?_) | (refine Hd.yv (y_pick rfl rfl rfl) ?_)
  refine Hd.yv (y_assign rfl) ?_
  refine Hd.nil ?_
  refine Hd.slots [(0, _)] ⟨rfl, trivial⟩ ?_
  refine Hd.toK hK10 ?_
  refine Hd.ret ?_
  clear hK1 hK2 hK3 hK4 hK5 hK6 hK7 hK8 hK9 hK10
  exact Hd.ret1 rfl () (by first | rfl | (simp only [*]; done) | (simp [*]; done)) (Ent.sep enn)
end Bu
end Go.Proofs.Ytmpemhbfgbochaa
namespace Go.Proofs.Ytmpemhbfgbochaa
set_option linter.unusedSimpArgs false
set_option linter.unusedVariables false
set_option linter.unnecessarySimpa false
open Go.RX Fx
namespace Bu
open Wo
set_option maxRecDepth 8000
def PrE (n : Nat) (x : WireA) (l : Nat → List UInt8) : Prop := x.cap = n ∧ x.rs = false ∧ ∀ k, k < 2 → (x.e k).what = 1 ∧ (x.e k).fd = (k : Int) ∧ (x.e k).rd = true ∧ (x.e k).wr = true ∧ (x.e k).shut = false ∧ (x.e k).b = l k
def PrW (n : Nat) (w : WA) (l : Nat → List UInt8) : Prop := ∃ x, w.ws = [x] ∧ PrE n x l
def updL (l : Nat → List UInt8) (k : Nat) (v : List UInt8) : Nat → List UInt8 := fun j => if j = k then v else l j
theorem updL_at (l : Nat → List UInt8) (k : Nat) (v : List UInt8) : updL l k v k = v := if_pos rfl
theorem updL_ne (l : Nat → List UInt8) {k j : Nat} (v : List UInt8) (h : j ≠ k) : updL l k v j = l j := if_neg h
theorem pr_at {n : Nat} {w : WA} {l : Nat → List UInt8} {x : WireA} (hx : w.ws = [x]) (h : PrE n x l) {k : Nat} (hk : k < 2) : w.at (k : Int) = some (0, k) := by
  show atW w.ws 0 (k : Int) = _
  rw [hx]
  have h0 := h.2.2 0 (by omega)
  have h1 := h.2.2 1 (by omega)
  have e : atE x (k : Int) = some k := by
    unfold atE
    rcases (show k = 0 ∨ k = 1 by omega) with rfl | rfl
    · rw [if_pos ⟨h0.1, h0.2.1⟩]
    · rw [if_neg (fun h => by have := h0.2.1; rw [this] at h; exact absurd h.2 (by decide)), if_pos ⟨h1.1, h1.2.1⟩]
  show (match atE x (k : Int) with | some k => some (0, k) | none => none) = _
  rw [e]
theorem pr_up {n : Nat} {x : WireA} {l : Nat → List UInt8} (h : PrE n x l) {j k : Nat} (f : List UInt8 → List UInt8) (i o : Bool) : PrE n ((x.up j fun e => { e with b := f e.b }).up k (riseE i o)) (updL l j (f (l j))) := by
  refine ⟨h.1, h.2.1, fun m hm => ?_⟩
  have hx := h.2.2 m hm
  have h1 : ((x.up j fun e => { e with b := f e.b }).e m).what = 1 ∧ ((x.up j fun e => { e with b := f e.b }).e m).fd = (m : Int) ∧ ((x.up j fun e => { e with b := f e.b }).e m).rd = true ∧ ((x.up j fun e => { e with b := f e.b }).e m).wr = true ∧ ((x.up j fun e => { e with b := f e.b }).e m).shut = false ∧ ((x.up j fun e => { e with b := f e.b }).e m).b = updL l j (f (l j)) m := by
    by_cases e : m = j
    · subst e; rw [up_at, updL_at]; exact ⟨hx.1, hx.2.1, hx.2.2.1, hx.2.2.2.1, hx.2.2.2.2.1, by show f (x.e m).b = _; rw [hx.2.2.2.2.2]⟩
    · rw [up_ne _ _ e, updL_ne _ _ e]; exact hx
  by_cases e : m = k
  · subst e; rw [up_at]; exact h1
  · rw [up_ne _ _ e]; exact h1
def rdV (b : List UInt8) (m : Int) : List UInt8 × Bool × Int := if m < 1 then ([], false, 2) else if b = [] then ([], false, 113) else (b.take m.toNat, false, 0)
theorem updL_id {l : Nat → List UInt8} {k : Nat} {v : List UInt8} (h : v = l k) : updL l k v = l := by
  funext j; unfold updL; split
  · rename_i e; subst e; exact h
  · rfl
theorem readR_pr {n : Nat} {w : WA} {l : Nat → List UInt8} (h : PrW n w l) {k : Nat} (hk : k < 2) (m : Int) : (readR w (k : Int) m).1 = rdV (l k) m ∧ PrW n (readR w (k : Int) m).2 (updL l k ((l k).drop m.toNat)) := by
  obtain ⟨x, hx, hp⟩ := h
  have hat := pr_at hx hp hk
  have hxk := hp.2.2 k hk
  have hxj := hp.2.2 (1 - k) (by omega)
  have hs : silentW x k = false := by unfold silentW; rw [hxj.1, hxj.2.2.2.2.1]; rfl
  have hr : readR w (k : Int) m = if m < 1 then (([], false, 2), w) else if l k ≠ [] then (((l k).take m.toNat, false, 0), w.setW 0 (takeW x k m.toNat)) else (([], false, 113), w) := by
    unfold readR; rw [hat]; dsimp only
    rw [hx]; dsimp only [List.getElem?_cons_zero]
    rw [if_neg (by rw [hxk.2.2.1]; simp), hxk.2.2.2.2.2, hs, hp.2.1]
    simp
  rw [hr]
  unfold rdV
  by_cases h1 : m < 1
  · rw [if_pos h1, if_pos h1]
    exact ⟨rfl, x, hx, by rw [updL_id (by rw [show m.toNat = 0 by omega]; rfl)]; exact hp⟩
  · rw [if_neg h1, if_neg h1]
    by_cases h2 : l k = []
    · rw [if_neg (by simpa using h2), if_pos h2]
      exact ⟨rfl, x, hx, by rw [updL_id (by rw [h2, List.drop_nil])]; exact hp⟩
    · rw [if_pos h2, if_neg h2]
      refine ⟨rfl, takeW x k m.toNat, ?_, pr_up hp (fun b => b.drop m.toNat) _ _⟩
      show w.ws.set 0 _ = _
      rw [hx]; rfl
def wrV (n : Nat) (b bs : List UInt8) : Int × Int := if bs.length = 0 then (0, 0) else if min bs.length (n - b.length) = 0 then (0, 113) else ((((min bs.length (n - b.length) : Nat)) : Int), 0)
theorem writeR_pr {n : Nat} {w : WA} {l : Nat → List UInt8} (h : PrW n w l) {k : Nat} (hk : k < 2) (bs : List UInt8) : (writeR w (k : Int) bs).1 = wrV n (l (1 - k)) bs ∧ PrW n (writeR w (k : Int) bs).2 (updL l (1 - k) (l (1 - k) ++ bs.take (n - (l (1 - k)).length))) := by
  obtain ⟨x, hx, hp⟩ := h
  have hat := pr_at hx hp hk
  have hxk := hp.2.2 k hk
  have hxj := hp.2.2 (1 - k) (by omega)
  have hpn : putN x k bs = min bs.length (n - (l (1 - k)).length) := by unfold putN; rw [hp.1, hxj.2.2.2.2.2]
  have hr : writeR w (k : Int) bs = if bs.length = 0 then ((0, 0), w) else if putN x k bs = 0 then ((0, 113), w) else ((((putN x k bs : Nat) : Int), 0), w.setW 0 (putW x k bs)) := by
    unfold writeR; rw [hat]; dsimp only
    rw [hx]; dsimp only [List.getElem?_cons_zero]
    rw [if_neg (by rw [hxk.2.2.2.1]; simp), if_neg (by rw [hp.2.1]; simp), if_neg (by rw [hxk.2.2.2.2.1, hxj.1]; simp)]
  rw [hr, hpn]
  unfold wrV
  by_cases h1 : bs.length = 0
  · rw [if_pos h1, if_pos h1]
    exact ⟨rfl, x, hx, by rw [updL_id (by rw [List.length_eq_zero_iff.1 h1]; simp)]; exact hp⟩
  · rw [if_neg h1, if_neg h1]
    by_cases h2 : min bs.length (n - (l (1 - k)).length) = 0
    · rw [if_pos h2, if_pos h2]
      exact ⟨rfl, x, hx, by rw [updL_id (by rw [show n - (l (1 - k)).length = 0 by omega]; simp)]; exact hp⟩
    · rw [if_neg h2, if_neg h2]
      refine ⟨rfl, putW x k bs, ?_, ?_⟩
      · show w.ws.set 0 _ = _
        rw [hx]; rfl
      · unfold putW
        rw [hpn]
        have e : bs.take (n - (l (1 - k)).length) = bs.take (min bs.length (n - (l (1 - k)).length)) := by
          rcases Nat.le_total bs.length (n - (l (1 - k)).length) with hle | hle
          · rw [Nat.min_eq_left hle, List.take_length, List.take_of_length_le hle]
          · rw [Nat.min_eq_right hle]
        rw [e]
        exact pr_up hp (fun b => b ++ bs.take (min bs.length (n - (l (1 - k)).length))) _ _
end Bu
end Go.Proofs.Ytmpemhbfgbochaa
namespace Go.Proofs.Ytmpemhbfgbochaa
set_option linter.unusedSimpArgs false
set_option linter.unusedVariables false
set_option linter.unnecessarySimpa false
open Go.RX Fx
namespace Bu
open Wo
set_option maxRecDepth 8000
def gotB (s : SdA) (b : List UInt8) (most : Int) : List UInt8 := b.take (rdN s most).toNat
theorem rdN_le (s : SdA) (most : Int) : rdN s most ≤ 1048576 - (s.c.length : Int) ∧ rdN s most ≤ most ∧ rdN s most ≤ 4096 ∧ (s.high > 0 → rdN s most ≤ s.high - (s.c.length : Int)) := by
  unfold rdN; split <;> omega
theorem readS_pr {n : Nat} {x : BfA} {w : WA} {l : Nat → List UInt8} (h : PrW n w l) (hf : x.fd = 0) (t : ToA) (now most : Int) :
    (readS ⟨x, w, t⟩ now most).x = (if gotB (x.s 0) (l 0) most = [] then x else x.up 0 fun s => setA 0 now { s with c := s.c ++ gotB (x.s 0) (l 0) most }) ∧
    (readS ⟨x, w, t⟩ now most).t = (if gotB (x.s 0) (l 0) most = [] then t else { t with i := ((gotB (x.s 0) (l 0) most).length : Int), r := decide ((((x.s 0).c ++ gotB (x.s 0) (l 0) most).length : Int) ≥ (x.s 0).low) }) ∧
    PrW n (readS ⟨x, w, t⟩ now most).w (updL l 0 ((l 0).drop (gotB (x.s 0) (l 0) most).length)) := by
  have hn := rdN_le (x.s 0) most
  unfold readS
  dsimp only
  by_cases h1 : rdN (x.s 0) most < 1
  · have hg : gotB (x.s 0) (l 0) most = [] := by unfold gotB; rw [show (rdN (x.s 0) most).toNat = 0 by omega]; rfl
    rw [if_pos h1, hg]
    exact ⟨rfl, rfl, by rw [updL_id (by rfl)]; exact h⟩
  · rw [if_neg h1, hf]
    have hr := readR_pr h (k := 0) (by omega) (rdN (x.s 0) most)
    rw [show ((0 : Nat) : Int) = 0 from rfl] at hr
    obtain ⟨⟨⟨bs, eo, ec⟩, w'⟩, hq⟩ : ∃ rr, readR w 0 (rdN (x.s 0) most) = rr := ⟨_, rfl⟩
    rw [hq] at hr ⊢
    dsimp only at hr
    unfold rdV at hr
    rw [if_neg h1] at hr
    by_cases h2 : l 0 = []
    · rw [if_pos h2] at hr
      have hg : gotB (x.s 0) (l 0) most = [] := by unfold gotB; rw [h2, List.take_nil]
      simp only [Prod.mk.injEq] at hr
      obtain ⟨⟨rfl, rfl, rfl⟩, hw⟩ := hr
      rw [hg]
      refine ⟨rfl, rfl, ?_⟩
      rw [h2, List.drop_nil] at hw ⊢
      exact hw
    · rw [if_neg h2] at hr
      simp only [Prod.mk.injEq] at hr
      obtain ⟨⟨hb, rfl, rfl⟩, hw⟩ := hr
      have hg : bs = gotB (x.s 0) (l 0) most := hb
      have hne : ¬ gotB (x.s 0) (l 0) most = [] := by
        unfold gotB
        rw [List.take_eq_nil_iff]
        intro h; rcases h with h | h
        · omega
        · exact h2 h
      rw [if_neg hne, if_neg hne, ← hg]
      have hlen : bs.length ≤ (rdN (x.s 0) most).toNat := by rw [hg]; unfold gotB; rw [List.length_take]; omega
      have ha : addA (x.s 0).c bs = (x.s 0).c ++ bs := by unfold addA; exact if_pos (by omega)
      have hd : (l 0).drop (rdN (x.s 0) most).toNat = (l 0).drop bs.length := by
        rw [hg]; unfold gotB; rw [List.length_take]
        rcases Nat.le_total (rdN (x.s 0) most).toNat (l 0).length with h | h
        · rw [Nat.min_eq_left h]
        · rw [Nat.min_eq_right h, List.drop_length, List.drop_of_length_le h]
      rw [hd] at hw
      have hp : rdP ⟨x, w, t⟩ now ((bs, false, 0), w') = ⟨x.up 0 (getF now bs), w', { t with i := (bs.length : Int), r := decide (((addA (x.s 0).c bs).length : Int) ≥ (x.s 0).low) }⟩ := rfl
      rw [hp]
      refine ⟨?_, ?_, hw⟩
      · show BfA.mk _ _ = BfA.mk _ _
        congr 1
        funext j
        show (if j = 0 then getF now bs (x.s j) else x.s j) = if j = 0 then setA 0 now { x.s j with c := (x.s j).c ++ bs } else x.s j
        by_cases e : j = 0
        · subst e; rw [if_pos rfl, if_pos rfl]; show setA 0 now { x.s 0 with c := addA (x.s 0).c bs } = _; rw [ha]
        · rw [if_neg e, if_neg e]
      · rw [ha]
def wentB (n : Nat) (s : SdA) (b : List UInt8) (much : Int) : List UInt8 := (offA s much).take (n - b.length)
theorem offA_pre (s : SdA) (much : Int) : offA s much = s.c.take (min much 4096).toNat := by
  unfold offA Bc.cpy
  split
  · rw [show (min much 4096).toNat = 0 by omega]; rfl
  · rfl
theorem went_pre (n : Nat) (s : SdA) (b : List UInt8) (much : Int) : wentB n s b much ++ s.c.drop (wentB n s b much).length = s.c := by
  have : wentB n s b much = s.c.take (min (n - b.length) (min much 4096).toNat) := by unfold wentB; rw [offA_pre, List.take_take]
  rw [this, List.length_take]
  rcases Nat.le_total (min (n - b.length) (min much 4096).toNat) s.c.length with h | h
  · rw [Nat.min_eq_left h, List.take_append_drop]
  · rw [Nat.min_eq_right h, List.drop_length, List.take_of_length_le h, List.append_nil]
theorem got_pre (s : SdA) (b : List UInt8) (most : Int) : gotB s b most ++ b.drop (gotB s b most).length = b := by
  unfold gotB
  rw [List.length_take]
  rcases Nat.le_total (rdN s most).toNat b.length with h | h
  · rw [Nat.min_eq_left h, List.take_append_drop]
  · rw [Nat.min_eq_right h, List.drop_length, List.take_of_length_le h, List.append_nil]
theorem writeS_pr {n : Nat} {x : BfA} {w : WA} {l : Nat → List UInt8} (h : PrW n w l) (hf : x.fd = 0) (t : ToA) (now much : Int) :
    (writeS ⟨x, w, t⟩ now much).x = (if wentB n (x.s 1) (l 1) much = [] then x else x.up 1 fun s => setA 1 now { s with c := s.c.drop (wentB n (x.s 1) (l 1) much).length }) ∧
    (writeS ⟨x, w, t⟩ now much).t = (if wentB n (x.s 1) (l 1) much = [] then t else { t with o := ((wentB n (x.s 1) (l 1) much).length : Int), w := decide (((((x.s 1).c.drop (wentB n (x.s 1) (l 1) much).length).length : Nat) : Int) ≤ (x.s 1).low) }) ∧
    PrW n (writeS ⟨x, w, t⟩ now much).w (updL l 1 (l 1 ++ wentB n (x.s 1) (l 1) much)) := by
  unfold writeS
  dsimp only
  by_cases h1 : (offA (x.s 1) much).length = 0
  · have hg : wentB n (x.s 1) (l 1) much = [] := by unfold wentB; rw [List.length_eq_zero_iff.1 h1]; simp
    rw [if_pos h1, hg]
    exact ⟨rfl, rfl, by rw [updL_id (by simp)]; exact h⟩
  · rw [if_neg h1, hf]
    have hr := writeR_pr h (k := 0) (by omega) (offA (x.s 1) much)
    rw [show ((0 : Nat) : Int) = 0 from rfl] at hr
    obtain ⟨⟨⟨m, ec⟩, w'⟩, hq⟩ : ∃ rr, writeR w 0 (offA (x.s 1) much) = rr := ⟨_, rfl⟩
    rw [hq] at hr ⊢
    dsimp only [Nat.sub_zero] at hr
    unfold wrV at hr
    rw [if_neg h1] at hr
    have hwl : (wentB n (x.s 1) (l 1) much).length = min (offA (x.s 1) much).length (n - (l 1).length) := by unfold wentB; rw [List.length_take, Nat.min_comm]
    by_cases h2 : min (offA (x.s 1) much).length (n - (l 1).length) = 0
    · rw [if_pos h2] at hr
      simp only [Prod.mk.injEq] at hr
      obtain ⟨⟨rfl, rfl⟩, hw⟩ := hr
      have hg : wentB n (x.s 1) (l 1) much = [] := List.length_eq_zero_iff.1 (by rw [hwl, h2])
      rw [if_pos hg, if_pos hg]
      exact ⟨rfl, rfl, hw⟩
    · rw [if_neg h2] at hr
      simp only [Prod.mk.injEq] at hr
      obtain ⟨⟨rfl, rfl⟩, hw⟩ := hr
      have hne : ¬ wentB n (x.s 1) (l 1) much = [] := fun e => by rw [e] at hwl; simp only [List.length_nil] at hwl; omega
      rw [if_neg hne, if_neg hne, ← hwl]
      refine ⟨rfl, rfl, hw⟩
end Bu
end Go.Proofs.Ytmpemhbfgbochaa
namespace Go.Proofs.Ytmpemhbfgbochaa
set_option linter.unusedSimpArgs false
set_option linter.unusedVariables false
set_option linter.unnecessarySimpa false
open Go.RX Fx
namespace Bu
open Wo
set_option maxRecDepth 8000
def SmS (s s' : SdA) (c : List UInt8) : Prop := s'.c = c ∧ s'.on = s.on ∧ s'.ended = s.ended ∧ s'.low = s.low ∧ s'.high = s.high ∧ s'.after = s.after
theorem SmS.same {s : SdA} {c : List UInt8} (h : c = s.c) : SmS s s c := ⟨h.symm, rfl, rfl, rfl, rfl, rfl⟩
def mvL (l : Nat → List UInt8) (got went : List UInt8) : Nat → List UInt8 := updL (updL l 0 ((l 0).drop got.length)) 1 (l 1 ++ went)
def rdO (x : BfA) (flags : Int) : Bool := decide (bits .and .i64 (stepM x flags) 2 ≠ 0)
def wrO (x : BfA) (flags : Int) : Bool := decide (bits .and .i64 (stepM x flags) 4 ≠ 0)
def stG (x : BfA) (l : Nat → List UInt8) (flags most : Int) : List UInt8 := if rdO x flags = true then gotB (x.s 0) (l 0) most else []
def stW (n : Nat) (x : BfA) (l : Nat → List UInt8) (flags much : Int) : List UInt8 := if wrO x flags = true then wentB n (x.s 1) (l 1) much else []
def stT1 (x : BfA) (got : List UInt8) (t : ToA) : ToA := if got = [] then t else { t with i := (got.length : Int), r := decide ((((x.s 0).c ++ got).length : Int) ≥ (x.s 0).low) }
def stT2 (x : BfA) (went : List UInt8) (t : ToA) : ToA := if went = [] then t else { t with o := (went.length : Int), w := decide (((((x.s 1).c.drop went.length).length : Nat) : Int) ≤ (x.s 1).low) }
structure StepOk (n : Nat) (x : BfA) (l : Nat → List UInt8) (σ : StA) (got went : List UInt8) : Prop where
  s0 : SmS (x.s 0) (σ.x.s 0) ((x.s 0).c ++ got)
  s1 : SmS (x.s 1) (σ.x.s 1) ((x.s 1).c.drop went.length)
  fd : σ.x.fd = x.fd
  w : PrW n σ.w (mvL l got went)
  t : σ.t = stT2 x went (stT1 x got noT)
theorem stepR_pr {n : Nat} {x : BfA} {w : WA} {l : Nat → List UInt8} (h : PrW n w l) (hf : x.fd = 0) (now flags most : Int) :
    SmS (x.s 0) ((stepR x w now flags most).x.s 0) ((x.s 0).c ++ stG x l flags most) ∧ (stepR x w now flags most).x.s 1 = x.s 1 ∧ (stepR x w now flags most).x.fd = x.fd ∧
    PrW n (stepR x w now flags most).w (updL l 0 ((l 0).drop (stG x l flags most).length)) ∧ (stepR x w now flags most).t = stT1 x (stG x l flags most) noT := by
  unfold stepR stG rdO
  simp only [decide_eq_true_eq]
  by_cases h1 : bits .and .i64 (stepM x flags) 2 ≠ 0
  · rw [if_pos h1, if_pos h1]
    obtain ⟨e1, e2, e3⟩ := readS_pr h hf noT now most
    rw [e1, e2]
    unfold stT1
    by_cases h2 : gotB (x.s 0) (l 0) most = []
    · rw [if_pos h2, if_pos h2]
      exact ⟨.same (by rw [h2, List.append_nil]), rfl, rfl, e3, rfl⟩
    · rw [if_neg h2, if_neg h2]
      refine ⟨?_, bup_ne _ _ (by decide), rfl, e3, rfl⟩
      rw [bup_at]
      exact ⟨rfl, rfl, rfl, rfl, rfl, rfl⟩
  · rw [if_neg h1, if_neg h1]
    exact ⟨.same (by rw [List.append_nil]), rfl, rfl, by rw [updL_id (by rfl)]; exact h, rfl⟩
theorem step_pr {n : Nat} {x : BfA} {w : WA} {l : Nat → List UInt8} (h : PrW n w l) (hf : x.fd = 0) (now flags most much : Int) : StepOk n x l (stepS x w now flags most much) (stG x l flags most) (stW n x l flags much) := by
  obtain ⟨a1, a2, a3, a4, a5⟩ := stepR_pr h hf now flags most
  unfold stepS stW wrO
  simp only [decide_eq_true_eq]
  by_cases h1 : bits .and .i64 (stepM x flags) 4 ≠ 0
  · rw [if_pos h1, if_pos h1]
    have hl1 : updL l 0 ((l 0).drop (stG x l flags most).length) 1 = l 1 := updL_ne _ _ (by decide)
    obtain ⟨e1, e2, e3⟩ := writeS_pr a4 (a3.trans hf) (stepR x w now flags most).t now much
    rw [hl1, a2] at e1 e2 e3
    have q : writeS (stepR x w now flags most) now much = writeS ⟨(stepR x w now flags most).x, (stepR x w now flags most).w, (stepR x w now flags most).t⟩ now much := rfl
    rw [q]
    refine ⟨?_, ?_, ?_, e3, ?_⟩
    · rw [e1]
      split
      · exact a1
      · rw [bup_ne _ _ (by decide)]; exact a1
    · rw [e1]
      split
      · rename_i h2; rw [a2, h2]; exact .same rfl
      · rw [bup_at, a2]; exact ⟨rfl, rfl, rfl, rfl, rfl, rfl⟩
    · rw [e1]
      split
      · exact a3
      · exact a3
    · rw [e2, a5]; rfl
  · rw [if_neg h1, if_neg h1]
    refine ⟨a1, by rw [a2]; exact .same rfl, a3, ?_, by rw [a5]; rfl⟩
    unfold mvL
    rw [updL_id (by rw [List.append_nil, updL_ne _ _ (by decide)])]
    exact a4
theorem mvL_0 (l : Nat → List UInt8) (got went : List UInt8) : mvL l got went 0 = (l 0).drop got.length := by unfold mvL; rw [updL_ne _ _ (by decide), updL_at]
theorem mvL_1 (l : Nat → List UInt8) (got went : List UInt8) : mvL l got went 1 = l 1 ++ went := by unfold mvL; rw [updL_at]
theorem stG_pre (x : BfA) (l : Nat → List UInt8) (flags most : Int) : stG x l flags most ++ (l 0).drop (stG x l flags most).length = l 0 := by
  unfold stG
  split
  · exact got_pre _ _ _
  · rfl
theorem stW_pre (n : Nat) (x : BfA) (l : Nat → List UInt8) (flags much : Int) : stW n x l flags much ++ (x.s 1).c.drop (stW n x l flags much).length = (x.s 1).c := by
  unfold stW
  split
  · exact went_pre _ _ _ _
  · rfl
end Bu
end Go.Proofs.Ytmpemhbfgbochaa
namespace Go.Proofs.Ytmpemhbfgbochaa
set_option linter.unusedSimpArgs false
set_option linter.unusedVariables false
set_option linter.unnecessarySimpa false
open Go.RX Fx
namespace Bu
open Wo
set_option maxRecDepth 8000
abbrev PpP (pb wb : Nat) (Q R : List UInt8) : SP := pt pb [.pointer (some ⟨wb, 0, none⟩), .string (str Q), .string (str R)] 38
def roomB (n : Nat) (b bs : List UInt8) : List UInt8 := bs.take (n - b.length)
theorem roomB_len (n : Nat) (b bs : List UInt8) : (roomB n b bs).length ≤ bs.length := by unfold roomB; rw [List.length_take]; omega
theorem roomB_wr (n : Nat) (b bs : List UInt8) (h : (wrV n b bs).2 = 0) : (wrV n b bs).1 = ((roomB n b bs).length : Int) := by
  unfold wrV at h ⊢
  unfold roomB
  rw [List.length_take]
  split
  · rename_i h1; simp [h1]
  · rename_i h1
    rw [if_neg h1] at h
    split
    · rename_i h2; rw [if_pos h2] at h; exact absurd h (by decide)
    · show ((min bs.length (n - b.length) : Nat) : Int) = _
      rw [Nat.min_comm]
theorem roomB_no (n : Nat) (b bs : List UInt8) (h : ¬ (wrV n b bs).2 = 0) : roomB n b bs = [] := by
  unfold wrV at h
  unfold roomB
  split at h
  · exact absurd rfl h
  · rename_i h1
    split at h
    · rename_i h2
      rw [show n - b.length = 0 by omega]; rfl
    · exact absurd rfl h
theorem roomB_tk (n : Nat) (b bs : List UInt8) : bs.take (roomB n b bs).length = roomB n b bs := by
  unfold roomB
  rw [List.length_take]
  rcases Nat.le_total (n - b.length) bs.length with h | h
  · rw [Nat.min_eq_left h]
  · rw [Nat.min_eq_right h, List.take_length, List.take_of_length_le h]
theorem rd_room {L : List SP} {ad : Option Addr} {n : Nat} {b bs : List UInt8} (h : RdS L 1 ad bs.length (bsl bs)) : RdS L 1 ad (roomB n b bs).length (bsl (roomB n b bs)) := by
  have := h.head (roomB_len n b bs)
  rw [Nat.mul_one, bsl_take, roomB_tk] at this
  exact this
set_option maxHeartbeats 2000000 in
theorem put_ct (L : List SP) (pb wb n : Nat) (w : WA) (l : Nat → List UInt8) (hw : PrW n w l) (Q R : List UInt8) (ad : Option Addr) (m cap : Nat) (bs : List UInt8) (hl : bs.length = m) (hD : RdS L 1 ad m (bsl bs)) (hmc : m ≤ cap) (hm : m ≤ 70368744177664) (hq : Q.length ≤ 70368744177664) : Ct Try.prog 15 #[.pointer (some ⟨pb, 0, none⟩), .slice ad m cap] (PpP pb wb Q R :: WorldP wb w :: L) (fun _ : Unit => .tuple #[]) (fun _ : Unit => PpP pb wb (Q ++ roomB n (l 0) bs) R :: WorldP wb (writeR w 1 bs).2 :: L) := by
  refine Ct.of (vs := [.pointer (some ⟨pb, 0, none⟩), .slice ad m cap]) Try.func15 rfl rfl [(0, .pointer (some ⟨pb, 0, none⟩)), (1, .slice ad m cap)] (by repeat (first | exact trivial | refine ⟨rfl, ?_⟩)) ?_
  intro E
  show Hd E 35 _ _ _ _
  subst hl
  have hr := (writeR_pr hw (k := 1) (by omega) bs).1
  rw [show ((1 : Nat) : Int) = 1 from rfl, show 1 - 1 = 0 from rfl] at hr
  have hrl := roomB_len n (l 0) bs
  have hrw := roomB_wr n (l 0) bs
  have hrn := roomB_no n (l 0) bs
  have hrt := roomB_tk n (l 0) bs
  refine Hd.seq (fun K1 hK1 => ?_)
  refine Hd.region ?_
  refine Hd.yv (y_move rfl) ?_
  refine Hd.yv (y_nilp rfl) ?_
  first | (refine Hd.yv (y_field' (q := 0) (ft := 25) Try.underlying38 rfl sz25 rfl rfl) ?_) | (refine Hd.yv (y_fieldR (q := 0) (ft := 25) Try.underlying38 rfl sz25 rfl rfl) ?_)
  first | (refine Hd.yv (y_load1 ag25 rfl (Rd.pt1 pkk (by (first | rfl)))) ?_) | (refine Hd.yv (y_load1 ag25 rfl (Rd.seg1 pkk (by (first | rfl)))) ?_) | (refine Hd.yv (y_loadR1 ag25 rfl (by (first | exact RdS.own pkk | exact rd_room (RdS.mono hD (Ent.sep enn)))) (by (first | rfl))) ?_)
  refine Hd.yv (y_move rfl) ?_
  refine Hd.callE rfl fk24 (wwrite_ct _ wb w 1 ad bs.length cap bs rfl ?hD hm hmc) (Ent.sep enn) ?_
  case hD => exact RdS.mono hD (Ent.sep enn)
  intro _
  rw [hr]
  refine Hd.yv (y_move rfl) ?_
  refine Hd.yv (y_extract rfl rfl) ?_
  refine Hd.yv (y_extract rfl rfl) ?_
  refine Hd.yv (y_assign rfl) ?_
  refine Hd.yv (y_assign rfl) ?_
  refine Hd.nil ?_
  refine Hd.slots [(0, _), (1, _), (4, _), (5, _)] ⟨rfl, rfl, rfl, rfl, trivial⟩ ?_
  refine Hd.toK hK1 ?_
  refine Hd.seq (fun K2 hK2 => ?_)
  refine Hd.region ?_
  refine Hd.yv (y_move rfl) ?_
  first | (refine Hd.yv (y_eqlT rfl rfl) ?_) | (refine Hd.yv (y_eql rfl rfl) ?_)
  refine Hd.yv (y_move rfl) ?_
  apply Hd.andg 5 17 22 [(0, _), (1, _), (4, _)] rfl ⟨rfl, rfl, rfl, trivial⟩
  · intro hg1_17
    try simp only [decide_eq_true_eq, decide_eq_false_iff_not, Bool.and_eq_true, Bool.or_eq_true, Bool.and_eq_false_iff, Bool.or_eq_false_iff, Bool.not_eq_true', Bool.not_eq_false', Bool.not_eq_true, Bool.not_eq_false, Int.not_lt, Int.not_le, Decidable.not_not, ne_eq] at hg1_17
    simp only [List.take]
    refine Hd.yg rfl rfl (y_move rfl) ?_
    refine Hd.yg rfl rfl (y_move rfl) ?_
    refine Hd.yg rfl rfl (y_len Try.underlying39 rfl) ?_
    refine Hd.yg rfl rfl (y_leq rfl rfl) ?_
    first | (refine Hd.yv (y_pickT rfl rfl) ?_) | (refine Hd.yv (y_pickF rfl rfl) ?_) | (refine Hd.yv (y_pickb rfl rfl rfl) ?_) | (refine Hd.yv (y_pick rfl rfl rfl) ?_)
    refine Hd.nil ?_
    exact Hd.mend (by repeat (first | exact trivial | refine ⟨rfl, ?_⟩)) (Ent.sep enn)
  · intro hg1_17
    try simp only [decide_eq_true_eq, decide_eq_false_iff_not, Bool.and_eq_true, Bool.or_eq_true, Bool.and_eq_false_iff, Bool.or_eq_false_iff, Bool.not_eq_true', Bool.not_eq_false', Bool.not_eq_true, Bool.not_eq_false, Int.not_lt, Int.not_le, Decidable.not_not, ne_eq] at hg1_17
    simp only [List.take]
    refine Hd.ng rfl rfl rfl ?_
    refine Hd.ng rfl rfl rfl ?_
    refine Hd.ng rfl rfl rfl ?_
    refine Hd.ng rfl rfl rfl ?_
    first | (refine Hd.yv (y_pickT rfl rfl) ?_) | (refine Hd.yv (y_pickF rfl rfl) ?_) | (refine Hd.yv (y_pickb rfl rfl rfl) ?_) | (refine Hd.yv (y_pick rfl rfl rfl) ?_)
    refine Hd.nil ?_
    exact Hd.mend (by repeat (first | exact trivial | refine ⟨rfl, ?_⟩)) (Ent.sep enn)
  simp only [List.drop]
  refine Hd.nil ?_
  refine Hd.slots [(0, _), (1, _), (4, _), (22, _)] ⟨rfl, rfl, rfl, rfl, trivial⟩ ?_
  refine Hd.toK hK2 ?_
  refine Hd.cond rfl (fun hc0 => ?_) (fun hc0 => ?_)
  ·
    try simp only [decide_eq_true_eq, decide_eq_false_iff_not, Bool.and_eq_true, Bool.or_eq_true, Bool.and_eq_false_iff, Bool.or_eq_false_iff, Bool.not_eq_true', Bool.not_eq_false', Bool.not_eq_true, Bool.not_eq_false, Int.not_lt, Int.not_le, Decidable.not_not, ne_eq] at hc0
    have hv := hrw hc0.1
    rw [hv]
    refine Hd.drawsH (PpP pb wb Q R :: L) (fun j => !([12].contains j)) mixed ?_
    simp only [List.length, Nat.zero_add, Nat.reduceAdd]
    refine Hd.takeH 0 rfl (by kernel_rfl) (by kernel_rfl) (by kernel_rfl) (by kernel_rfl) (y_move rfl) (fun _ _ => rfl) (Ent.sep enn) ?_
    refine Hd.takeH 1 rfl (by kernel_rfl) (by kernel_rfl) (by kernel_rfl) (by kernel_rfl) (y_move rfl) (fun _ _ => rfl) (Ent.sep enn) ?_
    refine Hd.takeH 2 rfl (by kernel_rfl) (by kernel_rfl) (by kernel_rfl) (by kernel_rfl) (y_nilp rfl) (fun _ _ => rfl) (Ent.sep enn) ?_
    first | (refine Hd.takeH 3 rfl (by kernel_rfl) (by kernel_rfl) (by kernel_rfl) (by kernel_rfl) (y_field' (q := 1) (ft := 9) Try.underlying38 rfl sz9 rfl rfl) (fun _ _ => rfl) (Ent.sep enn) ?_) | (refine Hd.takeH 3 rfl (by kernel_rfl) (by kernel_rfl) (by kernel_rfl) (by kernel_rfl) (y_fieldR (q := 1) (ft := 9) Try.underlying38 rfl sz9 rfl rfl) (fun _ _ => rfl) (Ent.sep enn) ?_)
    first | (refine Hd.takeH 4 rfl (by kernel_rfl) (by kernel_rfl) (by kernel_rfl) (by kernel_rfl) (y_load1 ag9 rfl (Rd.pt1 pkk (by (first | rfl)))) (fun _ _ => rfl) (Ent.sep enn) ?_) | (refine Hd.takeH 4 rfl (by kernel_rfl) (by kernel_rfl) (by kernel_rfl) (by kernel_rfl) (y_load1 ag9 rfl (Rd.seg1 pkk (by (first | rfl)))) (fun _ _ => rfl) (Ent.sep enn) ?_) | (refine Hd.takeH 4 rfl (by kernel_rfl) (by kernel_rfl) (by kernel_rfl) (by kernel_rfl) (y_loadR1 ag9 rfl (by (first | exact RdS.own pkk | exact rd_room (RdS.mono hD (Ent.sep enn)))) (by (first | rfl))) (fun _ _ => rfl) (Ent.sep enn) ?_)
    refine Hd.takeH 5 rfl (by kernel_rfl) (by kernel_rfl) (by kernel_rfl) (by kernel_rfl) (y_move rfl) (fun _ _ => rfl) (Ent.sep enn) ?_
    refine Hd.takeH 6 rfl (by kernel_rfl) (by kernel_rfl) (by kernel_rfl) (by kernel_rfl) (y_move rfl) (fun _ _ => rfl) (Ent.sep enn) ?_
    first | (refine Hd.takeH 7 rfl (by kernel_rfl) (by kernel_rfl) (by kernel_rfl) (by kernel_rfl) (y_slo_xoxN Try.underlying39 sz5 rfl rfl (by first | omega | (simp; done) | decide)) (fun _ _ => rfl) (Ent.sep enn) ?_) | (refine Hd.takeH 7 rfl (by kernel_rfl) (by kernel_rfl) (by kernel_rfl) (by kernel_rfl) (y_slo_xox Try.underlying39 sz5 rfl rfl (by first | omega | (simp; done) | decide) (by first | omega | (simp; done) | decide)) (fun _ _ => rfl) (Ent.sep enn) ?_)
    refine Hd.takeH 8 rfl (by kernel_rfl) (by kernel_rfl) (by kernel_rfl) (by kernel_rfl) (y_strOf (l := roomB n (l 0) bs) (by kernel_rfl) Try.underlying9 rfl (by (first | exact RdS.own pkk | exact rd_room (RdS.mono hD (Ent.sep enn))))) (fun _ _ => rfl) (Ent.sep enn) ?_
    refine Hd.takeH 9 rfl (by kernel_rfl) (by kernel_rfl) (by kernel_rfl) (by kernel_rfl) (y_addstr rfl rfl (by first | omega | (omega) | (simp; omega) | (simp only [List.length_append, List.length_take, List.length_drop, List.length_cons, List.length_nil]; omega))) (fun _ _ => rfl) (Ent.sep enn) ?_
    refine Hd.onlyH 10 rfl (by kernel_rfl) ?_
    refine Hd.yv (y_nilp rfl) ?_
    refine Hd.nil ?_
    refine Hd.thenN ?_
    refine Hd.heldK (J := (fun j => !([12].contains j))) (i := 10) (Ent.sep enn) ?_
    first | (refine Hd.takeH 11 rfl (by kernel_rfl) (by kernel_rfl) (by kernel_rfl) (by kernel_rfl) (y_field' (q := 1) (ft := 9) Try.underlying38 rfl sz9 rfl rfl) (fun _ _ => rfl) (Ent.sep enn) ?_) | (refine Hd.takeH 11 rfl (by kernel_rfl) (by kernel_rfl) (by kernel_rfl) (by kernel_rfl) (y_fieldR (q := 1) (ft := 9) Try.underlying38 rfl sz9 rfl rfl) (fun _ _ => rfl) (Ent.sep enn) ?_)
    refine Hd.onlyH 12 rfl (by kernel_rfl) ?_
    first | (refine Hd.store1 sz9 rfl rfl rfl pkk (by first | decide | (simp; done) | (simp; omega)) ?_) | (refine Hd.storeG1 sz9 rfl rfl rfl pkk (by first | decide | (simp; done) | (simp; omega)) ?_) | (refine Hd.storeO1 sz9 rfl rfl rfl pkk (by first | omega | (simp; done) | (simp; omega)) ?_)
    try simp only [List.set_cons_zero, List.set_cons_succ]
    refine Hd.nil ?_
    refine Hd.thenN ?_
    refine Hd.heldN (J := (fun j => !([12].contains j))) (i := 12) rfl ?_
    refine Hd.endH (by kernel_rfl) ?_
    refine Hd.slots [] trivial ?_
    clear hK1 hK2
    exact Hd.end0 rfl () rfl (Ent.sep enn)
  ·
    try simp only [decide_eq_true_eq, decide_eq_false_iff_not, Bool.and_eq_true, Bool.or_eq_true, Bool.and_eq_false_iff, Bool.or_eq_false_iff, Bool.not_eq_true', Bool.not_eq_false', Bool.not_eq_true, Bool.not_eq_false, Int.not_lt, Int.not_le, Decidable.not_not, ne_eq] at hc0
    refine Hd.skip ?_
    clear hK1 hK2
    have hv : ¬ (wrV n (l 0) bs).2 = 0 := fun h => by
      rcases hc0 with h2 | h2
      · exact h2 h
      · rw [hrw h] at h2; omega
    rw [show Q ++ roomB n (l 0) bs = Q by rw [hrn hv, List.append_nil]]
    exact Hd.end0 rfl () rfl (Ent.sep enn)
set_option maxHeartbeats 2000000 in
theorem take_ct (L : List SP) (pb wb n : Nat) (w : WA) (l : Nat → List UInt8) (hw : PrW n w l) (Q R : List UInt8) (m : Int) (hq : R.length + (l 1).length ≤ 70368744177664) : Ct Try.prog 30 #[.pointer (some ⟨pb, 0, none⟩), .int .i64 m] (PpP pb wb Q R :: WorldP wb w :: L) (fun _ : Unit => .tuple #[]) (fun _ : Unit => PpP pb wb Q (R ++ (l 1).take m.toNat) :: WorldP wb (readR w 1 m).2 :: L) := by
  refine Ct.of (vs := [.pointer (some ⟨pb, 0, none⟩), .int .i64 m]) Try.func30 rfl rfl [(0, .pointer (some ⟨pb, 0, none⟩)), (1, .int .i64 m)] (by repeat (first | exact trivial | refine ⟨rfl, ?_⟩)) ?_
  intro E
  show Hd E 29 _ _ _ _
  have hr := (readR_pr hw (k := 1) (by omega) m).1
  rw [show ((1 : Nat) : Int) = 1 from rfl] at hr
  have hlen : ((l 1).take m.toNat).length ≤ (l 1).length := by rw [List.length_take]; omega
  have h0 : (rdV (l 1) m).2.2 = 0 → (rdV (l 1) m).1 = (l 1).take m.toNat := fun h => by
    unfold rdV at h ⊢
    split
    · rename_i h1; rw [if_pos h1] at h; exact absurd h (by decide)
    · rename_i h1
      rw [if_neg h1] at h
      split
      · rename_i h2; rw [h2, List.take_nil]
      · rfl
  have h1 : ¬ (rdV (l 1) m).2.2 = 0 → (l 1).take m.toNat = [] := fun h => by
    unfold rdV at h
    split at h
    · rw [show m.toNat = 0 by omega]; rfl
    · split at h
      · rename_i h2; rw [h2, List.take_nil]
      · exact absurd rfl h
  refine Hd.seq (fun K1 hK1 => ?_)
  refine Hd.region ?_
  refine Hd.yv (y_move rfl) ?_
  refine Hd.yv (y_nilp rfl) ?_
  first | (refine Hd.yv (y_field' (q := 0) (ft := 25) Try.underlying38 rfl sz25 rfl rfl) ?_) | (refine Hd.yv (y_fieldR (q := 0) (ft := 25) Try.underlying38 rfl sz25 rfl rfl) ?_)
  first | (refine Hd.yv (y_load1 ag25 rfl (Rd.pt1 pkk (by (first | rfl)))) ?_) | (refine Hd.yv (y_load1 ag25 rfl (Rd.seg1 pkk (by (first | rfl)))) ?_) | (refine Hd.yv (y_loadR1 ag25 rfl (by (first | exact RdS.own pkk)) (by (first | rfl))) ?_)
  refine Hd.yv (y_move rfl) ?_
  refine Hd.callE rfl fk25 (wread_ct _ wb w 1 m) (Ent.sep enn) ?_
  rintro ⟨ad, c⟩
  rw [hr]
  dsimp only
  refine Hd.yv (y_move rfl) ?_
  refine Hd.yv (y_extract rfl rfl) ?_
  refine Hd.yv (y_extract rfl rfl) ?_
  refine Hd.yv (y_extract rfl rfl) ?_
  refine Hd.yv (y_assign rfl) ?_
  refine Hd.yv (y_assign rfl) ?_
  refine Hd.yv (y_assign rfl) ?_
  refine Hd.nil ?_
  refine Hd.slots [(0, _), (4, _), (6, _)] ⟨rfl, rfl, rfl, trivial⟩ ?_
  refine Hd.toK hK1 ?_
  refine Hd.seq (fun K2 hK2 => ?_)
  refine Hd.region ?_
  refine Hd.yv (y_move rfl) ?_
  first | (refine Hd.yv (y_eqlT rfl rfl) ?_) | (refine Hd.yv (y_eql rfl rfl) ?_)
  refine Hd.nil ?_
  refine Hd.slots [(0, _), (4, _), (18, _)] ⟨rfl, rfl, rfl, trivial⟩ ?_
  refine Hd.toK hK2 ?_
  refine Hd.cond rfl (fun hc0 => ?_) (fun hc0 => ?_)
  ·
    try simp only [decide_eq_true_eq, decide_eq_false_iff_not, Bool.and_eq_true, Bool.or_eq_true, Bool.and_eq_false_iff, Bool.or_eq_false_iff, Bool.not_eq_true', Bool.not_eq_false', Bool.not_eq_true, Bool.not_eq_false, Int.not_lt, Int.not_le, Decidable.not_not, ne_eq] at hc0
    rw [h0 hc0]
    refine Hd.drawsH ([PpP pb wb Q R, own 5 1 ad ((l 1).take m.toNat).length c (bsl ((l 1).take m.toNat))]) (fun j => !([10].contains j)) mixed ?_
    simp only [List.length, Nat.zero_add, Nat.reduceAdd]
    refine Hd.takeH 0 rfl (by kernel_rfl) (by kernel_rfl) (by kernel_rfl) (by kernel_rfl) (y_move rfl) (fun _ _ => rfl) (Ent.sep enn) ?_
    refine Hd.takeH 1 rfl (by kernel_rfl) (by kernel_rfl) (by kernel_rfl) (by kernel_rfl) (y_move rfl) (fun _ _ => rfl) (Ent.sep enn) ?_
    refine Hd.takeH 2 rfl (by kernel_rfl) (by kernel_rfl) (by kernel_rfl) (by kernel_rfl) (y_nilp rfl) (fun _ _ => rfl) (Ent.sep enn) ?_
    first | (refine Hd.takeH 3 rfl (by kernel_rfl) (by kernel_rfl) (by kernel_rfl) (by kernel_rfl) (y_field' (q := 2) (ft := 9) Try.underlying38 rfl sz9 rfl rfl) (fun _ _ => rfl) (Ent.sep enn) ?_) | (refine Hd.takeH 3 rfl (by kernel_rfl) (by kernel_rfl) (by kernel_rfl) (by kernel_rfl) (y_fieldR (q := 2) (ft := 9) Try.underlying38 rfl sz9 rfl rfl) (fun _ _ => rfl) (Ent.sep enn) ?_)
    first | (refine Hd.takeH 4 rfl (by kernel_rfl) (by kernel_rfl) (by kernel_rfl) (by kernel_rfl) (y_load1 ag9 rfl (Rd.pt1 pkk (by (first | rfl)))) (fun _ _ => rfl) (Ent.sep enn) ?_) | (refine Hd.takeH 4 rfl (by kernel_rfl) (by kernel_rfl) (by kernel_rfl) (by kernel_rfl) (y_load1 ag9 rfl (Rd.seg1 pkk (by (first | rfl)))) (fun _ _ => rfl) (Ent.sep enn) ?_) | (refine Hd.takeH 4 rfl (by kernel_rfl) (by kernel_rfl) (by kernel_rfl) (by kernel_rfl) (y_loadR1 ag9 rfl (by (first | exact RdS.own pkk)) (by (first | rfl))) (fun _ _ => rfl) (Ent.sep enn) ?_)
    refine Hd.takeH 5 rfl (by kernel_rfl) (by kernel_rfl) (by kernel_rfl) (by kernel_rfl) (y_move rfl) (fun _ _ => rfl) (Ent.sep enn) ?_
    refine Hd.takeH 6 rfl (by kernel_rfl) (by kernel_rfl) (by kernel_rfl) (by kernel_rfl) (y_strOf (l := _) (by kernel_rfl) Try.underlying9 rfl (by (first | exact RdS.own pkk))) (fun _ _ => rfl) (Ent.sep enn) ?_
    refine Hd.takeH 7 rfl (by kernel_rfl) (by kernel_rfl) (by kernel_rfl) (by kernel_rfl) (y_addstr rfl rfl (by first | omega | (omega) | (simp; omega) | (simp only [List.length_append, List.length_take, List.length_drop, List.length_cons, List.length_nil]; omega))) (fun _ _ => rfl) (Ent.sep enn) ?_
    refine Hd.onlyH 8 rfl (by kernel_rfl) ?_
    refine Hd.yv (y_nilp rfl) ?_
    refine Hd.nil ?_
    refine Hd.thenN ?_
    refine Hd.heldK (J := (fun j => !([10].contains j))) (i := 8) (Ent.sep enn) ?_
    first | (refine Hd.takeH 9 rfl (by kernel_rfl) (by kernel_rfl) (by kernel_rfl) (by kernel_rfl) (y_field' (q := 2) (ft := 9) Try.underlying38 rfl sz9 rfl rfl) (fun _ _ => rfl) (Ent.sep enn) ?_) | (refine Hd.takeH 9 rfl (by kernel_rfl) (by kernel_rfl) (by kernel_rfl) (by kernel_rfl) (y_fieldR (q := 2) (ft := 9) Try.underlying38 rfl sz9 rfl rfl) (fun _ _ => rfl) (Ent.sep enn) ?_)
    refine Hd.onlyH 10 rfl (by kernel_rfl) ?_
    first | (refine Hd.store1 sz9 rfl rfl rfl pkk (by first | decide | (simp; done) | (simp; omega)) ?_) | (refine Hd.storeG1 sz9 rfl rfl rfl pkk (by first | decide | (simp; done) | (simp; omega)) ?_) | (refine Hd.storeO1 sz9 rfl rfl rfl pkk (by first | omega | (simp; done) | (simp; omega)) ?_)
    try simp only [List.set_cons_zero, List.set_cons_succ]
    refine Hd.nil ?_
    refine Hd.thenN ?_
    refine Hd.heldN (J := (fun j => !([10].contains j))) (i := 10) rfl ?_
    refine Hd.endH (by kernel_rfl) ?_
    refine Hd.slots [] trivial ?_
    clear hK1 hK2
    exact Hd.end0 rfl () rfl (Ent.sep enn)
  ·
    try simp only [decide_eq_true_eq, decide_eq_false_iff_not, Bool.and_eq_true, Bool.or_eq_true, Bool.and_eq_false_iff, Bool.or_eq_false_iff, Bool.not_eq_true', Bool.not_eq_false', Bool.not_eq_true, Bool.not_eq_false, Int.not_lt, Int.not_le, Decidable.not_not, ne_eq] at hc0
    refine Hd.skip ?_
    clear hK1 hK2
    rw [show R ++ (l 1).take m.toNat = R by rw [h1 hc0, List.append_nil]]
    exact Hd.end0 rfl () rfl (Ent.sep enn)
end Bu
end Go.Proofs.Ytmpemhbfgbochaa
namespace Go.Proofs.Ytmpemhbfgbochaa
set_option linter.unusedSimpArgs false
set_option linter.unusedVariables false
set_option linter.unnecessarySimpa false
open Go.RX Fx
namespace Bu
open Wo
set_option maxRecDepth 8000
structure MkI (n : Nat) (low high : Int) (x : BfA) (w : WA) (l : Nat → List UInt8) : Prop where
  ok : BOk x
  fd : x.fd = 0
  lo : (x.s 0).low = low
  hi : (x.s 0).high = high
  w : PrW n w l
  le : high > 0 → ((x.s 0).c.length : Int) ≤ high
theorem MkI.put {n : Nat} {low high : Int} {x : BfA} {w : WA} {l : Nat → List UInt8} (h : MkI n low high x w l) (bs : List UInt8) : MkI n low high x (writeR w 1 bs).2 (updL l 0 (l 0 ++ roomB n (l 0) bs)) :=
  ⟨h.ok, h.fd, h.lo, h.hi, (writeR_pr h.w (k := 1) (by omega) bs).2, h.le⟩
theorem stG_le (x : BfA) (l : Nat → List UInt8) (flags most : Int) : ((stG x l flags most).length : Int) ≤ max 0 most ∧ ((x.s 0).high > 0 → ((x.s 0).c.length : Int) ≤ (x.s 0).high → ((x.s 0).c.length : Int) + ((stG x l flags most).length : Int) ≤ (x.s 0).high) ∧ (stG x l flags most).length ≤ 4096 := by
  have hn := rdN_le (x.s 0) most
  unfold stG
  split
  · unfold gotB
    rw [List.length_take]
    omega
  · simp only [List.length_nil]
    omega
theorem stT_i (x : BfA) (got went : List UInt8) : (stT2 x went (stT1 x got noT)).i = (got.length : Int) ∧ (stT2 x went (stT1 x got noT)).r = (decide (got.length > 0) && decide ((((x.s 0).c ++ got).length : Int) ≥ (x.s 0).low)) := by
  have h1 : (stT2 x went (stT1 x got noT)).i = (stT1 x got noT).i ∧ (stT2 x went (stT1 x got noT)).r = (stT1 x got noT).r := by
    unfold stT2; split <;> exact ⟨rfl, rfl⟩
  rw [h1.1, h1.2]
  unfold stT1
  split
  · rename_i h; subst h; exact ⟨rfl, rfl⟩
  · rename_i h
    have : got.length > 0 := List.length_pos_iff.2 h
    refine ⟨rfl, ?_⟩
    rw [decide_eq_true this, Bool.true_and]
theorem MkI.step {n : Nat} {low high : Int} {x : BfA} {w : WA} {l : Nat → List UInt8} (h : MkI n low high x w l) {now : Int} (hn : InK .u64 now) (flags most much : Int) :
    MkI n low high (stepS x w now flags most much).x (stepS x w now flags most much).w (mvL l (stG x l flags most) (stW n x l flags much)) ∧
    ((stepS x w now flags most much).x.s 0).c = (x.s 0).c ++ stG x l flags most ∧
    (stepS x w now flags most much).t.i = ((stG x l flags most).length : Int) ∧
    (stepS x w now flags most much).t.r = (decide ((stG x l flags most).length > 0) && decide ((((x.s 0).c ++ stG x l flags most).length : Int) ≥ low)) ∧
    ((stG x l flags most).length : Int) ≤ max 0 most ∧ (stG x l flags most).length ≤ 4096 := by
  have hs := step_pr h.w h.fd now flags most much
  have ht := stT_i x (stG x l flags most) (stW n x l flags much)
  have hg := stG_le x l flags most
  have h0 := hs.s0
  refine ⟨⟨bok_step h.ok hn w flags most much, hs.fd.trans h.fd, h0.2.2.2.1.trans h.lo, h0.2.2.2.2.1.trans h.hi, hs.w, fun hh => ?_⟩, h0.1, by rw [hs.t]; exact ht.1, by rw [hs.t, ht.2, h.lo], hg.1, hg.2.2⟩
  have h1 := h.le hh
  have h2 := hg.2.1
  rw [h.hi] at h2
  rw [h0.1, List.length_append]
  have := h2 hh h1
  omega
end Bu
end Go.Proofs.Ytmpemhbfgbochaa
namespace Go.Proofs.Ytmpemhbfgbochaa
set_option linter.unusedSimpArgs false
set_option linter.unusedVariables false
set_option linter.unnecessarySimpa false
open Go.RX Fx
namespace Bu
open Wo
set_option maxRecDepth 8000
theorem sd6 : sidesA 6 = [0, 1] := by decide +kernel
theorem onM2 (x : BfA) : onM x (sidesA 6) = if (x.s 1).on = true then bits .or .i64 (if (x.s 0).on = true then bits .or .i64 0 (flagA 0) else 0) (flagA 1) else (if (x.s 0).on = true then bits .or .i64 0 (flagA 0) else 0) := by rw [sd6]; rfl
end Bu
end Go.Proofs.Ytmpemhbfgbochaa
namespace Go.Proofs.Ytmpemhbfgbochaa
set_option linter.unusedSimpArgs false
set_option linter.unusedVariables false
set_option linter.unnecessarySimpa false
open Go.RX Fx
namespace Bu
open Wo
set_option maxRecDepth 8000
structure ByA where
  x : BfA
  w : WA
  l : Nat → List UInt8
  h : List UInt8
  r : List UInt8
  q : List UInt8
  v : List UInt8
structure ByI (n : Nat) (s : ByA) : Prop where
  ok : BOk s.x
  fd : s.x.fd = 0
  run : ∀ k, k < 2 → (s.x.s k).ended = false
  w : PrW n s.w s.l
  cap : ∀ k, k < 2 → (s.l k).length ≤ n
  inn : s.h ++ (s.x.s 0).c ++ s.l 0 = s.q
  out : s.r ++ s.l 1 ++ (s.x.s 1).c = s.v
def ByB (i : Nat) (s : ByA) : Prop := s.q.length ≤ 300 * i ∧ s.v.length ≤ 300 * i
theorem ByB.up {i : Nat} {s : ByA} (h : ByB i s) : ByB (i + 1) s := ⟨by have := h.1; omega, by have := h.2; omega⟩
theorem ByI.len {n : Nat} {s : ByA} (h : ByI n s) : s.h.length + (s.x.s 0).c.length + (s.l 0).length = s.q.length ∧ s.r.length + (s.l 1).length + (s.x.s 1).c.length = s.v.length := by
  rw [← h.inn, ← h.out]; simp [Nat.add_assoc]
def SmC (x x' : BfA) : Prop := x'.fd = x.fd ∧ ∀ k, k < 2 → (x'.s k).c = (x.s k).c ∧ (x'.s k).ended = (x.s k).ended
theorem SmC.rfl' (x : BfA) : SmC x x := ⟨rfl, fun _ _ => ⟨rfl, rfl⟩⟩
theorem ByI.same {n : Nat} {s : ByA} (h : ByI n s) {x' : BfA} (hx : SmC s.x x') (hok : BOk x') : ByI n { s with x := x' } :=
  ⟨hok, hx.1.trans h.fd, fun k hk => (hx.2 k hk).2.trans (h.run k hk), h.w, h.cap, by show _ ++ (x'.s 0).c ++ _ = _; rw [(hx.2 0 (by omega)).1]; exact h.inn, by show _ ++ _ ++ (x'.s 1).c = _; rw [(hx.2 1 (by omega)).1]; exact h.out⟩
abbrev byPut (n : Nat) (s : ByA) (bs : List UInt8) : ByA := { s with w := (writeR s.w 1 bs).2, l := updL s.l 0 (s.l 0 ++ roomB n (s.l 0) bs), q := s.q ++ roomB n (s.l 0) bs }
theorem byPut_l1 (n : Nat) (s : ByA) (bs : List UInt8) : (byPut n s bs).l 1 = s.l 1 := updL_ne (k := 0) (j := 1) s.l (s.l 0 ++ roomB n (s.l 0) bs) (by decide)
theorem ByI.put {n : Nat} {s : ByA} (h : ByI n s) (bs : List UInt8) : ByI n (byPut n s bs) := by
  refine ⟨h.ok, h.fd, h.run, (writeR_pr h.w (k := 1) (by omega) bs).2, fun k hk => ?_, ?_, ?_⟩
  · show (updL s.l 0 (s.l 0 ++ roomB n (s.l 0) bs) k).length ≤ n
    have h0 := h.cap k hk
    by_cases e : k = 0
    · subst e
      rw [updL_at, List.length_append]
      unfold roomB
      rw [List.length_take]; omega
    · rw [updL_ne _ _ e]; exact h0
  · show s.h ++ (s.x.s 0).c ++ updL s.l 0 (s.l 0 ++ roomB n (s.l 0) bs) 0 = s.q ++ roomB n (s.l 0) bs
    rw [updL_at, ← h.inn]; simp [List.append_assoc]
  · have e := byPut_l1 n s bs
    rw [e]; exact h.out
theorem ByB.put {n i : Nat} {s : ByA} (h : ByB i s) {bs : List UInt8} (hb : bs.length ≤ 300) : ByB (i + 1) (byPut n s bs) := by
  have := h.1
  have h2 := h.2
  have h3 := roomB_len n (s.l 0) bs
  refine ⟨?_, by show s.v.length ≤ _; omega⟩
  show (s.q ++ roomB n (s.l 0) bs).length ≤ _
  rw [List.length_append]; omega
abbrev byWr (s : ByA) (now : Int) (bs : List UInt8) : ByA := { s with x := wrB s.x now bs, v := if wrE s.x bs = 0 then s.v ++ bs else s.v }
theorem wrB_c (x : BfA) (now : Int) (bs : List UInt8) : (wrB x now bs).fd = x.fd ∧ ((wrB x now bs).s 0).c = (x.s 0).c ∧ ((wrB x now bs).s 1).c = (if wrE x bs = 0 then (x.s 1).c ++ bs else (x.s 1).c) ∧ ∀ k, k < 2 → ((wrB x now bs).s k).ended = (x.s k).ended := by
  have ha : wrE x bs = 0 → addA (x.s 1).c bs = (x.s 1).c ++ bs := fun h => by
    unfold wrE addE at h
    unfold addA
    split at h
    · rename_i h1; exact if_pos h1
    · exact absurd h (by decide)
  unfold wrB
  by_cases h0 : wrE x bs = 0
  · rw [if_neg (show ¬ addE (x.s 1).c bs ≠ 0 from fun h => h h0), if_pos h0]
    split
    · refine ⟨rfl, by rw [bup_ne _ _ (by decide)], by rw [bup_at]; exact ha h0, fun k hk => ?_⟩
      rcases (show k = 0 ∨ k = 1 by omega) with rfl | rfl
      · rw [bup_ne _ _ (by decide)]
      · rw [bup_at]
    · refine ⟨rfl, by rw [bup_ne _ _ (by decide)], by rw [bup_at]; exact ha h0, fun k hk => ?_⟩
      rcases (show k = 0 ∨ k = 1 by omega) with rfl | rfl
      · rw [bup_ne _ _ (by decide)]
      · rw [bup_at]
  · rw [if_pos (show addE (x.s 1).c bs ≠ 0 from h0), if_neg h0]
    exact ⟨rfl, rfl, rfl, fun _ _ => rfl⟩
theorem ByI.wr {n : Nat} {s : ByA} (h : ByI n s) {now : Int} (hn : InK .u64 now) (bs : List UInt8) : ByI n (byWr s now bs) := by
  obtain ⟨h1, h2, h3, h4⟩ := wrB_c s.x now bs
  refine ⟨bok_put h.ok hn bs, h1.trans h.fd, fun k hk => (h4 k hk).trans (h.run k hk), h.w, h.cap, ?_, ?_⟩
  · show s.h ++ ((wrB s.x now bs).s 0).c ++ s.l 0 = s.q
    rw [h2]; exact h.inn
  · show s.r ++ s.l 1 ++ ((wrB s.x now bs).s 1).c = if wrE s.x bs = 0 then s.v ++ bs else s.v
    rw [h3]
    split
    · rw [← h.out]; simp [List.append_assoc]
    · exact h.out
abbrev byRd (s : ByA) (m : Int) : ByA := { s with x := readB s.x m, h := s.h ++ readA s.x m }
theorem readB_c (x : BfA) (m : Int) : (readB x m).fd = x.fd ∧ ((readB x m).s 0).c = (x.s 0).c.drop m.toNat ∧ ((readB x m).s 1).c = (x.s 1).c ∧ (∀ k, k < 2 → ((readB x m).s k).ended = (x.s k).ended) ∧ readA x m = (x.s 0).c.take m.toNat ∧ ∀ k, k < 2 → ((readB x m).s k).on = (x.s k).on ∧ ((readB x m).s k).high = (x.s k).high := by
  unfold readB readA
  split
  · rename_i h
    rw [show m.toNat = 0 by omega]
    exact ⟨rfl, rfl, rfl, fun _ _ => rfl, rfl, fun _ _ => ⟨rfl, rfl⟩⟩
  · refine ⟨rfl, by rw [bup_at], by rw [bup_ne _ _ (by decide)], fun k hk => ?_, rfl, fun k hk => ?_⟩
    · rcases (show k = 0 ∨ k = 1 by omega) with rfl | rfl
      · rw [bup_at]
      · rw [bup_ne _ _ (by decide)]
    · rcases (show k = 0 ∨ k = 1 by omega) with rfl | rfl
      · rw [bup_at]; exact ⟨rfl, rfl⟩
      · rw [bup_ne _ _ (by decide)]; exact ⟨rfl, rfl⟩
theorem ByI.rd {n : Nat} {s : ByA} (h : ByI n s) (m : Int) : ByI n (byRd s m) := by
  obtain ⟨h1, h2, h3, h4, h5, _⟩ := readB_c s.x m
  refine ⟨bok_get h.ok m, h1.trans h.fd, fun k hk => (h4 k hk).trans (h.run k hk), h.w, h.cap, ?_, ?_⟩
  · show s.h ++ readA s.x m ++ ((readB s.x m).s 0).c ++ s.l 0 = s.q
    rw [h2, h5, List.append_assoc s.h, List.take_append_drop]; exact h.inn
  · show s.r ++ s.l 1 ++ ((readB s.x m).s 1).c = s.v
    rw [h3]; exact h.out
abbrev byTk (s : ByA) (m : Int) : ByA := { s with w := (readR s.w 1 m).2, l := updL s.l 1 ((s.l 1).drop m.toNat), r := s.r ++ (s.l 1).take m.toNat }
theorem byTk_l0 (s : ByA) (m : Int) : (byTk s m).l 0 = s.l 0 := updL_ne (k := 1) (j := 0) s.l ((s.l 1).drop m.toNat) (by decide)
theorem ByI.tk {n : Nat} {s : ByA} (h : ByI n s) (m : Int) : ByI n (byTk s m) := by
  refine ⟨h.ok, h.fd, h.run, (readR_pr h.w (k := 1) (by omega) m).2, fun k hk => ?_, ?_, ?_⟩
  · show (updL s.l 1 ((s.l 1).drop m.toNat) k).length ≤ n
    have h0 := h.cap k hk
    by_cases e : k = 1
    · subst e
      rw [updL_at, List.length_drop]; omega
    · rw [updL_ne _ _ e]; exact h0
  · have e := byTk_l0 s m
    rw [e]; exact h.inn
  · show s.r ++ (s.l 1).take m.toNat ++ updL s.l 1 ((s.l 1).drop m.toNat) 1 ++ (s.x.s 1).c = s.v
    rw [updL_at, List.append_assoc s.r, List.take_append_drop]; exact h.out
abbrev bySt (n : Nat) (s : ByA) (now flags most much : Int) : ByA := { s with x := (stepS s.x s.w now flags most much).x, w := (stepS s.x s.w now flags most much).w, l := mvL s.l (stG s.x s.l flags most) (stW n s.x s.l flags much) }
theorem stW_len (n : Nat) (x : BfA) (l : Nat → List UInt8) (flags much : Int) (h : (l 1).length ≤ n) : (l 1).length + (stW n x l flags much).length ≤ n := by
  unfold stW
  split
  · unfold wentB
    rw [List.length_take]; omega
  · simpa using h
theorem bySt_l0 (n : Nat) (s : ByA) (now flags most much : Int) : (bySt n s now flags most much).l 0 = (s.l 0).drop (stG s.x s.l flags most).length := mvL_0 s.l (stG s.x s.l flags most) (stW n s.x s.l flags much)
theorem bySt_l1 (n : Nat) (s : ByA) (now flags most much : Int) : (bySt n s now flags most much).l 1 = s.l 1 ++ stW n s.x s.l flags much := mvL_1 s.l (stG s.x s.l flags most) (stW n s.x s.l flags much)
theorem ByI.st {n : Nat} {s : ByA} (h : ByI n s) {now : Int} (hn : InK .u64 now) (flags most much : Int) : ByI n (bySt n s now flags most much) := by
  have hs := step_pr h.w h.fd now flags most much
  have e0 := hs.s0
  have e1 := hs.s1
  refine ⟨bok_step h.ok hn s.w flags most much, hs.fd.trans h.fd, fun k hk => ?_, hs.w, fun k hk => ?_, ?_, ?_⟩
  · rcases (show k = 0 ∨ k = 1 by omega) with rfl | rfl
    · exact e0.2.2.1.trans (h.run 0 hk)
    · exact e1.2.2.1.trans (h.run 1 hk)
  · rcases (show k = 0 ∨ k = 1 by omega) with rfl | rfl
    · have := h.cap 0 hk
      have e := bySt_l0 n s now flags most much
      rw [e, List.length_drop]; omega
    · have e := bySt_l1 n s now flags most much
      rw [e, List.length_append]
      exact stW_len n s.x s.l flags much (h.cap 1 hk)
  · have e := bySt_l0 n s now flags most much
    rw [e]
    show s.h ++ ((stepS s.x s.w now flags most much).x.s 0).c ++ _ = s.q
    rw [e0.1, ← List.append_assoc, List.append_assoc _ (stG s.x s.l flags most), stG_pre]; exact h.inn
  · have e := bySt_l1 n s now flags most much
    rw [e]
    show s.r ++ _ ++ ((stepS s.x s.w now flags most much).x.s 1).c = s.v
    rw [e1.1, ← List.append_assoc, List.append_assoc _ (stW n s.x s.l flags much), stW_pre]; exact h.out
structure LpI (n : Nat) (s : ByA) : Prop where
  i : ByI n s
  on : ∀ k, k < 2 → (s.x.s k).on = true
  high : (s.x.s 0).high = 0
  c : (s.x.s 0).c = []
theorem or6 : bits .or .i64 (bits .or .i64 0 (flagA 0)) (flagA 1) = 6 := by decide +kernel
theorem on6 {x : BfA} (h : ∀ k, k < 2 → (x.s k).on = true) : onM x (sidesA 6) = 6 := by
  rw [onM2, if_pos (h 0 (by omega)), if_pos (h 1 (by omega))]; exact or6
theorem LpI.wants {n : Nat} {s : ByA} (h : LpI n s) : wantsA s.x = if (s.x.s 1).c = [] then 2 else 6 := by
  have h0 : wantK s.x 0 = true := by unfold wantK; rw [h.i.run 0 (by omega), h.high]; rfl
  have h1 : wantK s.x 1 = decide (((s.x.s 1).c.length : Int) > 0) := by unfold wantK; rw [h.i.run 1 (by omega)]; simp
  unfold wantsA
  rw [on6 h.on, sd6]
  unfold waM
  simp only [List.foldl_cons, List.foldl_nil]
  rw [h0, if_pos rfl, h1]
  by_cases hc : (s.x.s 1).c = []
  · rw [if_pos hc, hc]; decide +kernel
  · have hl : (s.x.s 1).c.length > 0 := List.length_pos_iff.2 hc
    rw [if_neg hc, if_pos (by simp; omega)]; exact or6
theorem LpI.got {n : Nat} {s : ByA} (h : LpI n s) (hn : n ≤ 500) : stG s.x s.l 6 4096 = s.l 0 := by
  unfold stG rdO stepM
  rw [h.wants]
  have hr : rdN (s.x.s 0) 4096 = 4096 := by unfold rdN; rw [h.high, h.c]; rfl
  have hc := h.i.cap 0 (by omega)
  rw [if_pos (by split <;> decide +kernel)]
  unfold gotB
  rw [hr]
  exact List.take_of_length_le (by simp; omega)
theorem LpI.went {n : Nat} {s : ByA} (h : LpI n s) : stW n s.x s.l 6 4096 = ((s.x.s 1).c.take 4096).take (n - (s.l 1).length) := by
  unfold stW wrO stepM
  rw [h.wants]
  by_cases hc : (s.x.s 1).c = []
  · rw [if_pos hc, hc, if_neg (by decide +kernel)]; simp
  · rw [if_neg hc, if_pos (by decide +kernel)]
    unfold wentB
    rw [offA_pre]; rfl
abbrev lpS (n : Nat) (s : ByA) : ByA := bySt n s 0 6 4096 4096
abbrev lpR (n : Nat) (s : ByA) : ByA := byRd (lpS n s) (((lpS n s).x.s 0).c.length : Int)
abbrev lpN (n : Nat) (s : ByA) : ByA := byTk (lpR n s) 500
theorem LpI.next {n : Nat} {s : ByA} (h : LpI n s) (hn : n ≤ 500) : LpI n (lpN n s) := by
  have hs := step_pr h.i.w h.i.fd 0 6 4096 4096
  obtain ⟨r1, r2, r3, r4, r5, r6⟩ := readB_c (lpS n s).x (((lpS n s).x.s 0).c.length : Int)
  refine ⟨(((h.i.st (by simp [InK]) 6 4096 4096).rd _).tk 500), fun k hk => ?_, ?_, ?_⟩
  · show ((readB (lpS n s).x _).s k).on = true
    rw [(r6 k hk).1]
    rcases (show k = 0 ∨ k = 1 by omega) with rfl | rfl
    · exact hs.s0.2.1.trans (h.on 0 hk)
    · exact hs.s1.2.1.trans (h.on 1 hk)
  · show ((readB (lpS n s).x _).s 0).high = 0
    rw [(r6 0 (by omega)).2]
    exact hs.s0.2.2.2.2.1.trans h.high
  · show ((readB (lpS n s).x _).s 0).c = []
    rw [r2, Int.toNat_natCast]; exact List.drop_length
end Bu
end Go.Proofs.Ytmpemhbfgbochaa
