/-
  Buffered events: Enable, Disable, Enabled, Marks. Buffered events: Wants, stop, Late. Buffered events: read, write, Step. Buffered events: write, Step. Buffered events: Step. Bufev's laws: the chapter's first example. Limits: buckets of tokens.
-/
import Derived.Test.YtmpemhbfgbochaaDoorZLimitBoundsF
namespace Go.Proofs.YtmpemhbfgbochaaDoor
set_option linter.unusedSimpArgs false
set_option linter.unusedVariables false
set_option linter.unnecessarySimpa false
open Go.RX Fx
namespace Bu
open Wo
set_option maxRecDepth 8000
theorem sides_sub (mask : Int) : ∀ k ∈ sidesA mask, k < 2 := fun k hk => by
  have := (List.mem_filter.1 hk).1
  simp at this; omega
theorem sides_nd (mask : Int) : (sidesA mask).Nodup := by
  exact (show ([0, 1] : List Nat).Nodup by decide).sublist List.filter_sublist
theorem pre_new {mask : Int} {pre : List Nat} {c : Nat} (h : pre ++ [c] <+: sidesA mask) : c < 2 ∧ c ∉ pre := by
  refine ⟨sides_sub mask c (h.subset (by simp)), fun hc => ?_⟩
  have := (sides_nd mask).sublist h.sublist
  rw [List.nodup_append] at this
  exact this.2.2 c hc c (by simp) rfl
abbrev effB (f : Nat → SdA → SdA) (x : BfA) (ks : List Nat) : BfA := { x with s := fun j => if j ∈ ks then f j (x.s j) else x.s j }
theorem eff_nil (f : Nat → SdA → SdA) (x : BfA) : effB f x [] = x := by
  obtain ⟨s, fd⟩ := x
  show (⟨fun j => if j ∈ [] then _ else s j, fd⟩ : BfA) = _
  simp
theorem eff_s {f : Nat → SdA → SdA} {x : BfA} {ks : List Nat} {k : Nat} (h : k ∉ ks) : (effB f x ks).s k = x.s k := if_neg h
theorem eff_snoc {f : Nat → SdA → SdA} {x : BfA} {ks : List Nat} {k : Nat} (h : k ∉ ks) : (effB f x ks).up k (fun _ => f k (x.s k)) = effB f x (ks ++ [k]) := by
  unfold BfA.up
  congr 1; funext j
  by_cases e : j = k
  · subst e; simp
  · simp [e]
theorem Hd.bufK {E : World} {n : Nat} {ds : List Deferred} {st : List (Nat × Value)} {L L' : List SP} {K : Act → World → Prop} {b wb : Nat} {x : BfA} (p : Pick L (BufP b wb x) L') (k : Nat) (hk : k < 2) (h : Hd E n ds st (BfL b wb x k L') K) : Hd E n ds st L K :=
  Hd.buf p (by
    rcases (show k = 0 ∨ k = 1 by omega) with rfl | rfl
    · exact h
    · refine Hd.heap (BfL b wb x 1 L') (fun q s => ?_) h
      exact Ent.sep (show Ent (BfK b :: BfH b wb x.fd :: SdL b 0 (x.s 0) (SdL b 1 (x.s 1) L')) (BfK b :: BfH b wb x.fd :: SdL b 1 (x.s 1) (SdL b 0 (x.s 0) L')) from enn) q s)
theorem buf_putK {b wb k : Nat} {x : BfA} {s' : SdA} {L : List SP} (hk : k < 2) : ∀ h, sep (BfL b wb (x.up k fun _ => s') k L) h → sep (BufP b wb (x.up k fun _ => s') :: L) h := fun h s => by
  rcases (show k = 0 ∨ k = 1 by omega) with rfl | rfl
  · exact buf_put (fd := x.fd) (x' := x.up 0 fun _ => s') (s0 := (x.up 0 fun _ => s').s 0) (s1 := (x.up 0 fun _ => s').s 1) rfl rfl rfl h s
  · have s2 : sep (BfK b :: BfH b wb x.fd :: SdL b 1 ((x.up 1 fun _ => s').s 1) (SdL b 0 ((x.up 1 fun _ => s').s 0) L)) h := s
    exact buf_put (fd := x.fd) (x' := x.up 1 fun _ => s') (s0 := (x.up 1 fun _ => s').s 0) (s1 := (x.up 1 fun _ => s').s 1) rfl rfl rfl h (Ent.sep enn h s2)
theorem bup_same (x : BfA) (k : Nat) : x.up k (fun _ => x.s k) = x := by
  obtain ⟨s, fd⟩ := x
  unfold BfA.up
  congr 1; funext j
  by_cases e : j = k
  · subst e; simp
  · simp [e]
theorem buf_backK {b wb k : Nat} {x : BfA} {L : List SP} (hk : k < 2) : ∀ h, sep (BfL b wb x k L) h → sep (BufP b wb x :: L) h := fun h s => by
  have := buf_putK (b := b) (wb := wb) (x := x) (s' := x.s k) (L := L) hk h
  rw [bup_same] at this
  exact this s
theorem bfL_up {b wb k : Nat} {x : BfA} {s' : SdA} {L : List SP} (hk : k < 2) : BfL b wb (x.up k fun _ => s') k L = BfK b :: BfH b wb x.fd :: SdL b k s' (SdL b (1 - k) (x.s (1 - k)) L) := by
  unfold BfL
  rw [bup_at, bup_ne _ _ (by omega)]; rfl
theorem bfL_eff {b wb k : Nat} {x : BfA} {f : Nat → SdA → SdA} {ks : List Nat} {L : List SP} (hk : k ∉ ks) : BfL b wb (effB f x ks) k L = BfK b :: BfH b wb x.fd :: SdL b k (x.s k) (SdL b (1 - k) ((effB f x ks).s (1 - k)) L) := by
  unfold BfL
  rw [eff_s hk]
abbrev onF (now : Int) (k : Nat) (s : SdA) : SdA := if s.on = true then s else setA k now { s with on := true }
def enB (x : BfA) (now sides : Int) : BfA := if bits .andNot .i64 sides 6 = 0 then effB (onF now) x (sidesA sides) else x
def enE (sides : Int) : Int := if bits .andNot .i64 sides 6 = 0 then 0 else 2
set_option maxHeartbeats 2000000 in
theorem enable_ct (L : List SP) (b wb : Nat) (x : BfA) (ht : TmOk x) (now sides : Int) (hn : InK .u64 now) : Ct Tryd.prog 26 #[.pointer (some ⟨b, 0, none⟩), .int .u64 now, .int .i64 sides] (BufP b wb x :: L) (fun _ : Unit => .int .i64 (enE sides)) (fun _ : Unit => BufP b wb (enB x now sides) :: L) := by
  refine Ct.ofM (vs := [.pointer (some ⟨b, 0, none⟩), .int .u64 now, .int .i64 sides]) Tryd.func26 rfl rfl [(0, .pointer (some ⟨b, 0, none⟩)), (1, .int .u64 now), (2, .int .i64 sides)] (by repeat (first | exact trivial | refine ⟨rfl, ?_⟩)) ?_
  intro E
  show Hd E 33 _ _ _ _
  refine Hd.bufK .here 0 (by omega) ?_
  refine Hd.seq (fun K1 hK1 => ?_)
  refine Hd.region ?_
  refine Hd.box rfl rfl (fun b3 => ?_)
  refine Hd.box rfl rfl (fun b4 => ?_)
  refine Hd.yv (y_assign rfl) ?_
  refine Hd.nil ?_
  refine Hd.slots [(2, _), (3, _), (4, _)] ⟨rfl, rfl, rfl, trivial⟩ ?_
  refine Hd.toK hK1 ?_
  refine Hd.seq (fun K2 hK2 => ?_)
  refine Hd.seq (fun K3 hK3 => ?_)
  refine Hd.region ?_
  first | (refine Hd.yv (y_load1 ag39 rfl (Rd.pt1 pkk (by (first | rfl)))) ?_) | (refine Hd.yv (y_load1 ag39 rfl (Rd.seg1 pkk (by (first | rfl)))) ?_) | (refine Hd.yv (y_load1 ag39 rfl (Rd.segK1 pkk (by decide) (by (first | rfl)))) ?_) | (refine Hd.yv (y_loadR1 ag39 rfl (by (first | exact RdS.own pkk)) (by (first | rfl))) ?_)
  refine Hd.yv (y_move rfl) ?_
  refine Hd.callE rfl fk48 (may_ct _ b wb x.fd sides) (Ent.sep enn) ?_
  intro _
  refine Hd.heap (BufP b wb x :: pt b3 [.pointer (some ⟨b, 0, none⟩)] 39 :: pt b4 [.int .u64 now] 22 :: L) (fun q s => buf_close rfl rfl rfl q (Ent.sep enn q s)) ?_
  rw [show (if bits .andNot .i64 sides 6 = 0 then (0 : Int) else 2) = enE sides from rfl]
  refine Hd.yv (y_assign rfl) ?_
  refine Hd.nil ?_
  refine Hd.slots [(2, _), (3, _), (4, _), (7, _)] ⟨rfl, rfl, rfl, rfl, trivial⟩ ?_
  refine Hd.toK hK3 ?_
  refine Hd.seq (fun K4 hK4 => ?_)
  refine Hd.region ?_
  refine Hd.yv (y_move rfl) ?_
  refine Hd.yv (y_neq rfl rfl) ?_
  refine Hd.nil ?_
  refine Hd.slots [(2, _), (3, _), (4, _), (7, _), (14, _)] ⟨rfl, rfl, rfl, rfl, rfl, trivial⟩ ?_
  refine Hd.toK hK4 ?_
  refine Hd.cond rfl (fun hc0 => ?_) (fun hc0 => ?_)
  ·
    try simp only [decide_eq_true_eq, decide_eq_false_iff_not, Bool.and_eq_true, Bool.or_eq_true, Bool.and_eq_false_iff, Bool.or_eq_false_iff, Bool.not_eq_true', Bool.not_eq_false', Bool.not_eq_true, Bool.not_eq_false, Int.not_lt, Int.not_le, Decidable.not_not, ne_eq] at hc0
    refine Hd.seq (fun K5 hK5 => ?_)
    refine Hd.region ?_
    refine Hd.yv (y_move rfl) ?_
    refine Hd.yv (y_assign rfl) ?_
    refine Hd.nil ?_
    refine Hd.slots [(6, _)] ⟨rfl, trivial⟩ ?_
    refine Hd.toK hK5 ?_
    refine Hd.ret ?_
    refine Hd.thenRet ?_
    clear hK1 hK2 hK3 hK4 hK5
    have h : ¬ bits .andNot .i64 sides 6 = 0 := fun h => by unfold enE at hc0; rw [if_pos h] at hc0; exact hc0 rfl
    rw [show enB x now sides = x by unfold enB; rw [if_neg h]]
    exact Hd.retM (fun a fr => Lv.end1 fr rfl () rfl (Ent.sep enn))
  ·
    try simp only [decide_eq_true_eq, decide_eq_false_iff_not, Bool.and_eq_true, Bool.or_eq_true, Bool.and_eq_false_iff, Bool.or_eq_false_iff, Bool.not_eq_true', Bool.not_eq_false', Bool.not_eq_true, Bool.not_eq_false, Int.not_lt, Int.not_le, Decidable.not_not, ne_eq] at hc0
    have hz : bits .andNot .i64 sides 6 = 0 := Decidable.byContradiction fun h => by unfold enE at hc0; rw [if_neg h] at hc0; exact absurd hc0 (by decide)
    refine Hd.skip ?_
    refine Hd.toK hK2 ?_
    refine Hd.seq (fun K6 hK6 => ?_)
    refine Hd.seq (fun K7 hK7 => ?_)
    refine Hd.region ?_
    first | (refine Hd.yv (y_load1 ag39 rfl (Rd.pt1 pkk (by (first | rfl)))) ?_) | (refine Hd.yv (y_load1 ag39 rfl (Rd.seg1 pkk (by (first | rfl)))) ?_) | (refine Hd.yv (y_load1 ag39 rfl (Rd.segK1 pkk (by decide) (by (first | rfl)))) ?_) | (refine Hd.yv (y_loadR1 ag39 rfl (by (first | exact RdS.own pkk)) (by (first | rfl))) ?_)
    refine Hd.yv (y_move rfl) ?_
    refine Hd.callE rfl fk49 (some_ct _ (some ⟨b, 0, none⟩) sides) (Ent.sep enn) ?_
    rintro ⟨bb, bm⟩
    dsimp only
    refine Hd.nil ?_
    refine Hd.slots [(3, _), (4, _), (18, _)] ⟨rfl, rfl, rfl, trivial⟩ ?_
    refine Hd.toK hK7 ?_
    refine Hd.block ?_
    refine Hd.rangeF (enc := encK b) (S := fun ys => ys = sidesA sides) (Sp := fun ys => ys <+: sidesA sides)
      (fun pre => BufP b wb (effB (onF now) x pre) :: pt b3 [.pointer (some ⟨b, 0, none⟩)] 39 :: pt b4 [.int .u64 now] 22 :: L) (fun _ _ => [pu False])
      rfl (by kernel_rfl) (fun _ => rfl) rfl (some_it b bb bm sides) (by rw [eff_nil]; refine Ent.sep ?_; refine Ent.pick pkk ?_; refine Ent.pick pkk ?_; refine Ent.pick pkk ?_; exact Ent.swap (L := [_, _])) ?_ ?_ ?_
    ·
      intro E l' R pre c N hR hG
      obtain ⟨hc, hcp⟩ := pre_new hG
      have hes := eff_s (f := onF now) (x := x) hcp
      have hsn := eff_snoc (f := onF now) (x := x) hcp
      unfold Rnd
      simp only [List.cons_append, List.nil_append, pz, encK]
      refine Hd.seq (fun K8 hK8 => ?_)
      refine Hd.region ?_
      refine Hd.yv (y_assign rfl) ?_
      refine Hd.nil ?_
      refine Hd.slots [(3, _), (4, _), (8, _), (20, _)] ⟨rfl, rfl, rfl, rfl, trivial⟩ ?_
      refine Hd.toK hK8 ?_
      refine Hd.region ?_
      refine Hd.yv (y_assign rfl) ?_
      refine Hd.nil ?_
      refine Hd.slots [(3, _), (4, _), (8, _), (9, _)] ⟨rfl, rfl, rfl, rfl, trivial⟩ ?_
      refine Hd.thenN ?_
      refine Hd.begin hR pkk ?_
      refine Hd.block ?_
      refine Hd.seq (fun K9 hK9 => ?_)
      refine Hd.bufK (b := b) pkk c hc ?_
      rw [bfL_eff hcp]
      refine Hd.region ?_
      refine Hd.yv (y_move rfl) ?_
      refine Hd.yv (y_nilp rfl) ?_
      first | (refine Hd.yv (y_field' (q := 2) (ft := 4) Tryd.underlying101 rfl sz4 rfl rfl) ?_) | (refine Hd.yv (y_fieldR (q := 2) (ft := 4) Tryd.underlying101 rfl sz4 rfl rfl) ?_)
      first | (refine Hd.yv (y_load1 ag4 rfl (Rd.pt1 pkk (by (first | rfl)))) ?_) | (refine Hd.yv (y_load1 ag4 rfl (Rd.seg1 pkk (by (first | rfl)))) ?_) | (refine Hd.yv (y_load1 ag4 rfl (Rd.segK1 pkk (by decide) (by (first | rfl)))) ?_) | (refine Hd.yv (y_loadR1 ag4 rfl (by (first | exact RdS.own pkk)) (by (first | rfl))) ?_)
      refine Hd.yv (y_not rfl) ?_
      refine Hd.nil ?_
      refine Hd.slots [(3, _), (4, _), (8, _), (9, _), (25, _)] ⟨rfl, rfl, rfl, rfl, rfl, trivial⟩ ?_
      refine Hd.toK hK9 ?_
      refine Hd.cond rfl (fun hc1 => ?_) (fun hc1 => ?_)
      ·
        try simp only [decide_eq_true_eq, decide_eq_false_iff_not, Bool.and_eq_true, Bool.or_eq_true, Bool.and_eq_false_iff, Bool.or_eq_false_iff, Bool.not_eq_true', Bool.not_eq_false', Bool.not_eq_true, Bool.not_eq_false, Int.not_lt, Int.not_le, Decidable.not_not, ne_eq] at hc1
        refine Hd.seq (fun K10 hK10 => ?_)
        refine Hd.region ?_
        refine Hd.yv (y_move rfl) ?_
        refine Hd.yv (y_nilp rfl) ?_
        first | (refine Hd.yv (y_field' (q := 2) (ft := 4) Tryd.underlying101 rfl sz4 rfl rfl) ?_) | (refine Hd.yv (y_fieldR (q := 2) (ft := 4) Tryd.underlying101 rfl sz4 rfl rfl) ?_)
        first | (refine Hd.store1 sz4 rfl rfl rfl pkk (by first | decide | (simp; done) | (simp; omega)) ?_) | (refine Hd.storeG1 sz4 rfl rfl rfl pkk (by first | decide | (simp; done) | (simp; omega)) ?_) | (refine Hd.storeO1 sz4 rfl rfl rfl pkk (by first | omega | (simp; done) | (simp; omega)) ?_) | (refine Hd.storeK1 sz4 rfl rfl rfl pkk (by decide) (by first | decide | (simp; done) | (simp; omega)) ?_)
        try simp only [List.set_cons_zero, List.set_cons_succ]
        refine Hd.nil ?_
        refine Hd.slots [(3, _), (4, _), (8, _)] ⟨rfl, rfl, rfl, trivial⟩ ?_
        refine Hd.toK hK10 ?_
        refine Hd.region ?_
        first | (refine Hd.yv (y_load1 ag39 rfl (Rd.pt1 pkk (by (first | rfl)))) ?_) | (refine Hd.yv (y_load1 ag39 rfl (Rd.seg1 pkk (by (first | rfl)))) ?_) | (refine Hd.yv (y_load1 ag39 rfl (Rd.segK1 pkk (by decide) (by (first | rfl)))) ?_) | (refine Hd.yv (y_loadR1 ag39 rfl (by (first | exact RdS.own pkk)) (by (first | rfl))) ?_)
        refine Hd.yv (y_move rfl) ?_
        first | (refine Hd.yv (y_load1 ag22 rfl (Rd.pt1 pkk (by (first | rfl)))) ?_) | (refine Hd.yv (y_load1 ag22 rfl (Rd.seg1 pkk (by (first | rfl)))) ?_) | (refine Hd.yv (y_load1 ag22 rfl (Rd.segK1 pkk (by decide) (by (first | rfl)))) ?_) | (refine Hd.yv (y_loadR1 ag22 rfl (by (first | exact RdS.own pkk)) (by (first | rfl))) ?_)
        refine Hd.callE rfl fk50 (set_ct _ b c hc { x.s c with on := true } now hn (ht c hc).1) (Ent.sep enn) ?_
        intro _
        refine Hd.nil ?_
        refine Hd.heap (BufP b wb ((effB (onF now) x pre).up c fun _ => setA c now { x.s c with on := true }) :: _) (fun q s => buf_putK hc q (by rw [bfL_up hc]; exact Ent.sep enn q s)) ?_
        refine Hd.slots [] trivial ?_
        refine Hd.inB ?_
        clear hK1 hK2 hK3 hK4 hK6 hK7 hK8 hK9 hK10
        refine Hd.reN ?_
        simp only [List.cons_append, List.nil_append]
        have hs1 : onF now c (x.s c) = setA c now { x.s c with on := true } := if_neg (by rw [hc1]; simp)
        rw [← hsn, hs1]
        exact (Ent.sep enn)
      ·
        try simp only [decide_eq_true_eq, decide_eq_false_iff_not, Bool.and_eq_true, Bool.or_eq_true, Bool.and_eq_false_iff, Bool.or_eq_false_iff, Bool.not_eq_true', Bool.not_eq_false', Bool.not_eq_true, Bool.not_eq_false, Int.not_lt, Int.not_le, Decidable.not_not, ne_eq] at hc1
        refine Hd.heap (BufP b wb ((effB (onF now) x pre).up c fun _ => x.s c) :: _) (fun q s => buf_putK hc q (by rw [bfL_up hc]; exact Ent.sep enn q s)) ?_
        refine Hd.skip ?_
        refine Hd.inB ?_
        clear hK1 hK2 hK3 hK4 hK6 hK7 hK8 hK9
        refine Hd.reN ?_
        simp only [List.cons_append, List.nil_append]
        have hs1 : onF now c (x.s c) = x.s c := if_pos hc1
        rw [← hsn, hs1]
        exact (Ent.sep enn)
    ·
      intro r0 ys hys
      obtain rfl : ys = sidesA sides := hys
      try simp only [List.cons_append, List.nil_append]
      refine Hd.inB ?_
      refine Hd.toK hK6 ?_
      refine Hd.seq (fun K11 hK11 => ?_)
      refine Hd.region ?_
      refine Hd.yv (y_assign rfl) ?_
      refine Hd.nil ?_
      refine Hd.slots [(6, _)] ⟨rfl, trivial⟩ ?_
      refine Hd.toK hK11 ?_
      refine Hd.ret ?_
      clear hK1 hK2 hK3 hK4 hK6 hK7 hK11
      rw [show enE sides = 0 from hc0, show enB x now sides = effB (onF now) x (sidesA sides) by unfold enB; rw [if_pos hz]]
      exact Hd.retM (fun a fr => Lv.mark pkk (Lv.end1 fr rfl () rfl (Ent.sep enn)))
    ·
      rintro r0_0 (_ | id0) pre0 hG0
      ·
        exact Hd.absurd (by first | exact id | simp)
      ·
        exact Hd.absurd (by first | exact id | simp)
def onM (x : BfA) (ks : List Nat) : Int := ks.foldl (fun m k => if (x.s k).on = true then bits .or .i64 m (flagA k) else m) 0
theorem onM_snoc (x : BfA) (ks : List Nat) (k : Nat) : onM x (ks ++ [k]) = if (x.s k).on = true then bits .or .i64 (onM x ks) (flagA k) else onM x ks := by unfold onM; rw [List.foldl_append]; rfl
set_option maxHeartbeats 2000000 in
theorem enabled_ct (L : List SP) (b wb : Nat) (x : BfA) : Ct Tryd.prog 52 #[.pointer (some ⟨b, 0, none⟩)] (BufP b wb x :: L) (fun _ : Unit => .int .i64 (onM x (sidesA 6))) (fun _ : Unit => BufP b wb x :: L) := by
  refine Ct.ofM (vs := [.pointer (some ⟨b, 0, none⟩)]) Tryd.func52 rfl rfl [(0, .pointer (some ⟨b, 0, none⟩))] (by repeat (first | exact trivial | refine ⟨rfl, ?_⟩)) ?_
  intro E
  show Hd E 22 _ _ _ _
  refine Hd.bufK .here 0 (by omega) ?_
  refine Hd.seq (fun K1 hK1 => ?_)
  refine Hd.region ?_
  refine Hd.yv (y_assign rfl) ?_
  refine Hd.nil ?_
  refine Hd.slots [(0, _)] ⟨rfl, trivial⟩ ?_
  refine Hd.toK hK1 ?_
  refine Hd.seq (fun K2 hK2 => ?_)
  refine Hd.region ?_
  refine Hd.alloc zr3 (fun b3 => ?_)
  first | (refine Hd.store1 sz3 rfl rfl rfl pkk (by first | decide | (simp; done) | (simp; omega)) ?_) | (refine Hd.storeG1 sz3 rfl rfl rfl pkk (by first | decide | (simp; done) | (simp; omega)) ?_) | (refine Hd.storeO1 sz3 rfl rfl rfl pkk (by first | omega | (simp; done) | (simp; omega)) ?_) | (refine Hd.storeK1 sz3 rfl rfl rfl pkk (by decide) (by first | decide | (simp; done) | (simp; omega)) ?_)
  try simp only [List.set_cons_zero, List.set_cons_succ]
  refine Hd.nil ?_
  refine Hd.slots [(0, _), (3, _)] ⟨rfl, rfl, trivial⟩ ?_
  refine Hd.toK hK2 ?_
  refine Hd.seq (fun K3 hK3 => ?_)
  refine Hd.seq (fun K4 hK4 => ?_)
  refine Hd.region ?_
  refine Hd.yv (y_move rfl) ?_
  refine Hd.callE rfl fk37 (bnone_ct _ b wb x.fd) (Ent.sep enn) ?_
  intro _
  refine Hd.heap (BufP b wb x :: pt b3 [.int .i64 0] 3 :: L) (fun q s => buf_close rfl rfl rfl q (Ent.sep enn q s)) ?_
  refine Hd.yv (y_not rfl) ?_
  refine Hd.nil ?_
  refine Hd.slots [(0, _), (3, _), (8, _)] ⟨rfl, rfl, rfl, trivial⟩ ?_
  refine Hd.toK hK4 ?_
  refine Hd.condT rfl ?_
  refine Hd.seq (fun K5 hK5 => ?_)
  refine Hd.region ?_
  refine Hd.yv (y_move rfl) ?_
  refine Hd.callE rfl fk49 (some_ct _ (some ⟨b, 0, none⟩) 6) (Ent.sep enn) ?_
  rintro ⟨bb, bm⟩
  dsimp only
  refine Hd.nil ?_
  refine Hd.slots [(3, _), (10, _)] ⟨rfl, rfl, trivial⟩ ?_
  refine Hd.toK hK5 ?_
  refine Hd.block ?_
  refine Hd.rangeF (enc := encK b) (S := fun ys => ys = sidesA 6) (Sp := fun ys => ys <+: sidesA 6)
    (fun pre => pt b3 [.int .i64 (onM x pre)] 3 :: BufP b wb x :: L) (fun _ _ => [pu False])
    rfl (by kernel_rfl) (fun _ => rfl) rfl (some_it b bb bm 6) (by refine Ent.sep ?_; refine Ent.eq pkk (pt_eq (by rfl)) ?_; refine Ent.pick pkk ?_; exact Ent.swap (L := [_, _])) ?_ ?_ ?_
  ·
    intro E l' R pre c N hR hG
    obtain ⟨hc, hcp⟩ := pre_new hG
    have hsn := onM_snoc x pre c
    unfold Rnd
    simp only [List.cons_append, List.nil_append, pz, encK]
    refine Hd.seq (fun K6 hK6 => ?_)
    refine Hd.region ?_
    refine Hd.yv (y_assign rfl) ?_
    refine Hd.nil ?_
    refine Hd.slots [(3, _), (4, _), (12, _)] ⟨rfl, rfl, rfl, trivial⟩ ?_
    refine Hd.toK hK6 ?_
    refine Hd.region ?_
    refine Hd.yv (y_assign rfl) ?_
    refine Hd.nil ?_
    refine Hd.slots [(3, _), (4, _), (5, _)] ⟨rfl, rfl, rfl, trivial⟩ ?_
    refine Hd.thenN ?_
    refine Hd.begin hR pkk ?_
    refine Hd.block ?_
    refine Hd.seq (fun K7 hK7 => ?_)
    refine Hd.bufK (b := b) pkk c hc ?_
    refine Hd.region ?_
    refine Hd.yv (y_move rfl) ?_
    refine Hd.yv (y_nilp rfl) ?_
    first | (refine Hd.yv (y_field' (q := 2) (ft := 4) Tryd.underlying101 rfl sz4 rfl rfl) ?_) | (refine Hd.yv (y_fieldR (q := 2) (ft := 4) Tryd.underlying101 rfl sz4 rfl rfl) ?_)
    first | (refine Hd.yv (y_load1 ag4 rfl (Rd.pt1 pkk (by (first | rfl)))) ?_) | (refine Hd.yv (y_load1 ag4 rfl (Rd.seg1 pkk (by (first | rfl)))) ?_) | (refine Hd.yv (y_load1 ag4 rfl (Rd.segK1 pkk (by decide) (by (first | rfl)))) ?_) | (refine Hd.yv (y_loadR1 ag4 rfl (by (first | exact RdS.own pkk)) (by (first | rfl))) ?_)
    refine Hd.nil ?_
    refine Hd.heap (BufP b wb x :: _) (fun q s => buf_backK hc q (by exact Ent.sep enn q s)) ?_
    refine Hd.slots [(3, _), (4, _), (16, _)] ⟨rfl, rfl, rfl, trivial⟩ ?_
    refine Hd.toK hK7 ?_
    refine Hd.cond rfl (fun hc1 => ?_) (fun hc1 => ?_)
    ·
      try simp only [decide_eq_true_eq, decide_eq_false_iff_not, Bool.and_eq_true, Bool.or_eq_true, Bool.and_eq_false_iff, Bool.or_eq_false_iff, Bool.not_eq_true', Bool.not_eq_false', Bool.not_eq_true, Bool.not_eq_false, Int.not_lt, Int.not_le, Decidable.not_not, ne_eq] at hc1
      refine Hd.drawsH ([pt b3 [.int .i64 (onM x pre)] 3]) (fun j => !([4].contains j)) mixed ?_
      simp only [List.length, Nat.zero_add, Nat.reduceAdd]
      first | (refine Hd.takeH 0 rfl (by kernel_rfl) (by kernel_rfl) (by kernel_rfl) (by kernel_rfl) (y_load1 ag3 rfl (Rd.pt1 pkk (by (first | rfl)))) (fun _ _ => rfl) (Ent.sep enn) ?_) | (refine Hd.takeH 0 rfl (by kernel_rfl) (by kernel_rfl) (by kernel_rfl) (by kernel_rfl) (y_load1 ag3 rfl (Rd.seg1 pkk (by (first | rfl)))) (fun _ _ => rfl) (Ent.sep enn) ?_) | (refine Hd.takeH 0 rfl (by kernel_rfl) (by kernel_rfl) (by kernel_rfl) (by kernel_rfl) (y_load1 ag3 rfl (Rd.segK1 pkk (by decide) (by (first | rfl)))) (fun _ _ => rfl) (Ent.sep enn) ?_) | (refine Hd.takeH 0 rfl (by kernel_rfl) (by kernel_rfl) (by kernel_rfl) (by kernel_rfl) (y_loadR1 ag3 rfl (by (first | exact RdS.own pkk)) (by (first | rfl))) (fun _ _ => rfl) (Ent.sep enn) ?_)
      refine Hd.takeH 1 rfl (by kernel_rfl) (by kernel_rfl) (by kernel_rfl) (by kernel_rfl) (y_move rfl) (fun _ _ => rfl) (Ent.sep enn) ?_
      refine Hd.onlyH 2 rfl (by kernel_rfl) ?_
      refine Hd.callE rfl fk54 (flag_ct _ c) (Ent.sep enn) ?_
      intro _
      refine Hd.nil ?_
      refine Hd.thenN ?_
      refine Hd.heldK (J := (fun j => !([4].contains j))) (i := 2) (Ent.sep enn) ?_
      refine Hd.takeH 3 rfl (by kernel_rfl) (by kernel_rfl) (by kernel_rfl) (by kernel_rfl) (y_or rfl rfl) (fun _ _ => rfl) (Ent.sep enn) ?_
      refine Hd.onlyH 4 rfl (by kernel_rfl) ?_
      first | (refine Hd.store1 sz3 rfl rfl rfl pkk (by first | decide | (simp; done) | (simp; omega)) ?_) | (refine Hd.storeG1 sz3 rfl rfl rfl pkk (by first | decide | (simp; done) | (simp; omega)) ?_) | (refine Hd.storeO1 sz3 rfl rfl rfl pkk (by first | omega | (simp; done) | (simp; omega)) ?_) | (refine Hd.storeK1 sz3 rfl rfl rfl pkk (by decide) (by first | decide | (simp; done) | (simp; omega)) ?_)
      try simp only [List.set_cons_zero, List.set_cons_succ]
      refine Hd.nil ?_
      refine Hd.thenN ?_
      refine Hd.heldN (J := (fun j => !([4].contains j))) (i := 4) rfl ?_
      refine Hd.endH (by kernel_rfl) ?_
      refine Hd.slots [(3, _)] ⟨rfl, trivial⟩ ?_
      refine Hd.inB ?_
      clear hK1 hK2 hK3 hK4 hK5 hK6 hK7
      refine Hd.reN ?_
      simp only [List.cons_append, List.nil_append]
      rw [hsn, if_pos hc1]
      exact (Ent.sep enn)
    ·
      try simp only [decide_eq_true_eq, decide_eq_false_iff_not, Bool.and_eq_true, Bool.or_eq_true, Bool.and_eq_false_iff, Bool.or_eq_false_iff, Bool.not_eq_true', Bool.not_eq_false', Bool.not_eq_true, Bool.not_eq_false, Int.not_lt, Int.not_le, Decidable.not_not, ne_eq] at hc1
      refine Hd.skip ?_
      refine Hd.inB ?_
      clear hK1 hK2 hK3 hK4 hK5 hK6 hK7
      refine Hd.reN ?_
      simp only [List.cons_append, List.nil_append]
      rw [hsn, if_neg (by rw [hc1]; simp)]
      exact (Ent.sep enn)
  ·
    intro r0 ys hys
    obtain rfl : ys = sidesA 6 := hys
    try simp only [List.cons_append, List.nil_append]
    refine Hd.inB ?_
    refine Hd.toK hK3 ?_
    refine Hd.seq (fun K8 hK8 => ?_)
    refine Hd.region ?_
    first | (refine Hd.yv (y_load1 ag3 rfl (Rd.pt1 pkk (by (first | rfl)))) ?_) | (refine Hd.yv (y_load1 ag3 rfl (Rd.seg1 pkk (by (first | rfl)))) ?_) | (refine Hd.yv (y_load1 ag3 rfl (Rd.segK1 pkk (by decide) (by (first | rfl)))) ?_) | (refine Hd.yv (y_loadR1 ag3 rfl (by (first | exact RdS.own pkk)) (by (first | rfl))) ?_)
    refine Hd.yv (y_assign rfl) ?_
    refine Hd.nil ?_
    refine Hd.slots [(2, _)] ⟨rfl, trivial⟩ ?_
    refine Hd.toK hK8 ?_
    refine Hd.ret ?_
    clear hK1 hK2 hK3 hK4 hK5 hK8
    exact Hd.retM (fun a fr => Lv.mark pkk (Lv.end1 fr rfl () rfl (Ent.sep enn)))
  ·
    rintro r0_0 (_ | id0) pre0 hG0
    ·
      exact Hd.absurd (by first | exact id | simp)
    ·
      exact Hd.absurd (by first | exact id | simp)
end Bu
end Go.Proofs.YtmpemhbfgbochaaDoor
namespace Go.Proofs.YtmpemhbfgbochaaDoor
set_option linter.unusedSimpArgs false
set_option linter.unusedVariables false
set_option linter.unnecessarySimpa false
open Go.RX Fx
namespace Bu
open Wo
set_option maxRecDepth 8000
def wantK (x : BfA) (k : Nat) : Bool := !(x.s k).ended && ((decide ((k : Int) = 0) && (decide ((x.s k).high = 0) || decide (((x.s k).c.length : Int) < (x.s k).high))) || (decide ((k : Int) = 1) && decide (((x.s k).c.length : Int) > 0)))
def waM (x : BfA) (ks : List Nat) : Int := ks.foldl (fun m k => if wantK x k = true then bits .or .i64 m (flagA k) else m) 0
theorem waM_snoc (x : BfA) (ks : List Nat) (k : Nat) : waM x (ks ++ [k]) = if wantK x k = true then bits .or .i64 (waM x ks) (flagA k) else waM x ks := by unfold waM; rw [List.foldl_append]; rfl
def wantsA (x : BfA) : Int := waM x (sidesA (onM x (sidesA 6)))
set_option maxHeartbeats 2000000 in
theorem wants_ct (L : List SP) (b wb : Nat) (x : BfA) : Ct Tryd.prog 28 #[.pointer (some ⟨b, 0, none⟩)] (BufP b wb x :: L) (fun _ : Unit => .int .i64 (wantsA x)) (fun _ : Unit => BufP b wb x :: L) := by
  refine Ct.ofM (vs := [.pointer (some ⟨b, 0, none⟩)]) Tryd.func28 rfl rfl [(0, .pointer (some ⟨b, 0, none⟩))] (by repeat (first | exact trivial | refine ⟨rfl, ?_⟩)) ?_
  intro E
  show Hd E 54 _ _ _ _
  refine Hd.bufK .here 0 (by omega) ?_
  refine Hd.seq (fun K1 hK1 => ?_)
  refine Hd.region ?_
  refine Hd.yv (y_assign rfl) ?_
  refine Hd.nil ?_
  refine Hd.slots [(0, _)] ⟨rfl, trivial⟩ ?_
  refine Hd.toK hK1 ?_
  refine Hd.seq (fun K2 hK2 => ?_)
  refine Hd.region ?_
  refine Hd.alloc zr3 (fun b3 => ?_)
  first | (refine Hd.store1 sz3 rfl rfl rfl pkk (by first | decide | (simp; done) | (simp; omega)) ?_) | (refine Hd.storeG1 sz3 rfl rfl rfl pkk (by first | decide | (simp; done) | (simp; omega)) ?_) | (refine Hd.storeO1 sz3 rfl rfl rfl pkk (by first | omega | (simp; done) | (simp; omega)) ?_) | (refine Hd.storeK1 sz3 rfl rfl rfl pkk (by decide) (by first | decide | (simp; done) | (simp; omega)) ?_)
  try simp only [List.set_cons_zero, List.set_cons_succ]
  refine Hd.nil ?_
  refine Hd.slots [(0, _), (3, _)] ⟨rfl, rfl, trivial⟩ ?_
  refine Hd.toK hK2 ?_
  refine Hd.seq (fun K3 hK3 => ?_)
  refine Hd.seq (fun K4 hK4 => ?_)
  refine Hd.region ?_
  refine Hd.yv (y_move rfl) ?_
  refine Hd.callE rfl fk37 (bnone_ct _ b wb x.fd) (Ent.sep enn) ?_
  intro _
  refine Hd.heap (BufP b wb x :: pt b3 [.int .i64 0] 3 :: L) (fun q s => buf_close rfl rfl rfl q (Ent.sep enn q s)) ?_
  refine Hd.nil ?_
  refine Hd.slots [(0, _), (3, _), (8, _)] ⟨rfl, rfl, rfl, trivial⟩ ?_
  refine Hd.toK hK4 ?_
  refine Hd.condF rfl ?_
  refine Hd.skip ?_
  refine Hd.toK hK3 ?_
  refine Hd.seq (fun K5 hK5 => ?_)
  refine Hd.seq (fun K6 hK6 => ?_)
  refine Hd.region ?_
  refine Hd.yv (y_move rfl) ?_
  refine Hd.yv (y_move rfl) ?_
  refine Hd.callE rfl fk52 (enabled_ct _ b wb x) (Ent.sep enn) ?_
  intro _
  refine Hd.callE rfl fk49 (some_ct _ (some ⟨b, 0, none⟩) (onM x (sidesA 6))) (Ent.sep enn) ?_
  rintro ⟨bb, bm⟩
  dsimp only
  refine Hd.nil ?_
  refine Hd.slots [(3, _), (13, _)] ⟨rfl, rfl, trivial⟩ ?_
  refine Hd.toK hK6 ?_
  refine Hd.block ?_
  refine Hd.rangeF (enc := encK b) (S := fun ys => ys = sidesA (onM x (sidesA 6))) (Sp := fun ys => ys <+: sidesA (onM x (sidesA 6)))
    (fun pre => pt b3 [.int .i64 (waM x pre)] 3 :: BufP b wb x :: L) (fun _ _ => [pu False])
    rfl (by kernel_rfl) (fun _ => rfl) rfl (some_it b bb bm (onM x (sidesA 6))) (by refine Ent.sep ?_; refine Ent.eq pkk (pt_eq (by rfl)) ?_; refine Ent.pick pkk ?_; exact Ent.swap (L := [_, _])) ?_ ?_ ?_
  ·
    intro E l' R pre c N hR hG
    obtain ⟨hc, hcp⟩ := pre_new hG
    have hsn := waM_snoc x pre c
    unfold Rnd
    simp only [List.cons_append, List.nil_append, pz, encK]
    refine Hd.seq (fun K7 hK7 => ?_)
    refine Hd.region ?_
    refine Hd.yv (y_assign rfl) ?_
    refine Hd.nil ?_
    refine Hd.slots [(3, _), (4, _), (15, _)] ⟨rfl, rfl, rfl, trivial⟩ ?_
    refine Hd.toK hK7 ?_
    refine Hd.region ?_
    refine Hd.yv (y_assign rfl) ?_
    refine Hd.nil ?_
    refine Hd.slots [(3, _), (4, _), (5, _)] ⟨rfl, rfl, rfl, trivial⟩ ?_
    refine Hd.thenN ?_
    refine Hd.begin hR pkk ?_
    refine Hd.block ?_
    refine Hd.seq (fun K8 hK8 => ?_)
    refine Hd.bufK (b := b) pkk c hc ?_
    refine Hd.region ?_
    refine Hd.yv (y_move rfl) ?_
    refine Hd.yv (y_nilp rfl) ?_
    first | (refine Hd.yv (y_field' (q := 0) (ft := 99) Tryd.underlying101 rfl sz99 rfl rfl) ?_) | (refine Hd.yv (y_fieldR (q := 0) (ft := 99) Tryd.underlying101 rfl sz99 rfl rfl) ?_)
    refine Hd.callE rfl fk53 (chLen _ b (2 + c * 8 + 0) (x.s c).c) (Ent.sep enn) ?_
    intro _
    refine Hd.yv (y_assign rfl) ?_
    refine Hd.nil ?_
    refine Hd.slots [(3, _), (4, _), (5, _), (6, _)] ⟨rfl, rfl, rfl, rfl, trivial⟩ ?_
    refine Hd.toK hK8 ?_
    refine Hd.block ?_
    refine Hd.seq (fun K9 hK9 => ?_)
    refine Hd.region ?_
    refine Hd.yv (y_move rfl) ?_
    refine Hd.yv (y_nilp rfl) ?_
    first | (refine Hd.yv (y_field' (q := 3) (ft := 4) Tryd.underlying101 rfl sz4 rfl rfl) ?_) | (refine Hd.yv (y_fieldR (q := 3) (ft := 4) Tryd.underlying101 rfl sz4 rfl rfl) ?_)
    first | (refine Hd.yv (y_load1 ag4 rfl (Rd.pt1 pkk (by (first | rfl)))) ?_) | (refine Hd.yv (y_load1 ag4 rfl (Rd.seg1 pkk (by (first | rfl)))) ?_) | (refine Hd.yv (y_load1 ag4 rfl (Rd.segK1 pkk (by decide) (by (first | rfl)))) ?_) | (refine Hd.yv (y_loadR1 ag4 rfl (by (first | exact RdS.own pkk)) (by (first | rfl))) ?_)
    refine Hd.yv (y_assign rfl) ?_
    refine Hd.nil ?_
    refine Hd.slots [(3, _), (4, _), (5, _), (6, _), (20, _)] ⟨rfl, rfl, rfl, rfl, rfl, trivial⟩ ?_
    refine Hd.toK hK9 ?_
    refine Hd.cond rfl (fun hc1 => ?_) (fun hc1 => ?_)
    ·
      try simp only [decide_eq_true_eq, decide_eq_false_iff_not, Bool.and_eq_true, Bool.or_eq_true, Bool.and_eq_false_iff, Bool.or_eq_false_iff, Bool.not_eq_true', Bool.not_eq_false', Bool.not_eq_true, Bool.not_eq_false, Int.not_lt, Int.not_le, Decidable.not_not, ne_eq] at hc1
      refine Hd.heap (BufP b wb x :: _) (fun q s => buf_backK hc q (by exact Ent.sep enn q s)) ?_
      rw [if_neg (by unfold wantK; rw [hc1]; simp)] at hsn
      refine Hd.skip ?_
      refine Hd.inB ?_
      refine Hd.inB ?_
      clear hK1 hK2 hK3 hK4 hK5 hK6 hK7 hK8 hK9
      refine Hd.reN ?_
      simp only [List.cons_append, List.nil_append]
      rw [hsn]
      exact (Ent.sep enn)
    ·
      try simp only [decide_eq_true_eq, decide_eq_false_iff_not, Bool.and_eq_true, Bool.or_eq_true, Bool.and_eq_false_iff, Bool.or_eq_false_iff, Bool.not_eq_true', Bool.not_eq_false', Bool.not_eq_true, Bool.not_eq_false, Int.not_lt, Int.not_le, Decidable.not_not, ne_eq] at hc1
      refine Hd.seq (fun K10 hK10 => ?_)
      refine Hd.seq (fun K11 hK11 => ?_)
      refine Hd.region ?_
      refine Hd.yv (y_move rfl) ?_
      first | (refine Hd.yv (y_eqlT rfl rfl) ?_) | (refine Hd.yv (y_eql rfl rfl) ?_)
      refine Hd.yv (y_move rfl) ?_
      apply Hd.andg 14 28 42 [(3, _), (4, _), (6, _)] rfl ⟨rfl, rfl, rfl, trivial⟩
      · intro hg9_28
        try simp only [decide_eq_true_eq, decide_eq_false_iff_not, Bool.and_eq_true, Bool.or_eq_true, Bool.and_eq_false_iff, Bool.or_eq_false_iff, Bool.not_eq_true', Bool.not_eq_false', Bool.not_eq_true, Bool.not_eq_false, Int.not_lt, Int.not_le, Decidable.not_not, ne_eq] at hg9_28
        simp only [List.take]
        refine Hd.yg rfl rfl (y_move rfl) ?_
        refine Hd.yg rfl rfl (y_nilp rfl) ?_
        first | (refine Hd.yg rfl rfl (y_field' (q := 5) (ft := 3) Tryd.underlying101 rfl sz3 rfl rfl) ?_) | (refine Hd.yg rfl rfl (y_fieldR (q := 5) (ft := 3) Tryd.underlying101 rfl sz3 rfl rfl) ?_)
        first | (refine Hd.yg rfl rfl (y_load1 ag3 rfl (Rd.pt1 pkk (by (first | rfl)))) ?_) | (refine Hd.yg rfl rfl (y_load1 ag3 rfl (Rd.seg1 pkk (by (first | rfl)))) ?_) | (refine Hd.yg rfl rfl (y_load1 ag3 rfl (Rd.segK1 pkk (by decide) (by (first | rfl)))) ?_) | (refine Hd.yg rfl rfl (y_loadR1 ag3 rfl (by (first | exact RdS.own pkk)) (by (first | rfl))) ?_)
        first | (refine Hd.yg rfl rfl (y_eqlT rfl rfl) ?_) | (refine Hd.yg rfl rfl (y_eql rfl rfl) ?_)
        refine Hd.yg rfl rfl (y_move rfl) ?_
        apply Hd.org 7 34 41 [(3, _), (4, _), (6, _), (28, _)] rfl ⟨rfl, rfl, rfl, rfl, trivial⟩
        · intro hg9_34
          try simp only [decide_eq_true_eq, decide_eq_false_iff_not, Bool.and_eq_true, Bool.or_eq_true, Bool.and_eq_false_iff, Bool.or_eq_false_iff, Bool.not_eq_true', Bool.not_eq_false', Bool.not_eq_true, Bool.not_eq_false, Int.not_lt, Int.not_le, Decidable.not_not, ne_eq] at hg9_34
          simp only [List.take]
          refine Hd.ng rfl rfl rfl ?_
          refine Hd.ng rfl rfl rfl ?_
          refine Hd.ng rfl rfl rfl ?_
          refine Hd.ng rfl rfl rfl ?_
          refine Hd.ng rfl rfl rfl ?_
          refine Hd.ng rfl rfl rfl ?_
          first | (refine Hd.yg rfl rfl (y_pickT rfl rfl) ?_) | (refine Hd.yg rfl rfl (y_pickF rfl rfl) ?_) | (refine Hd.yg rfl rfl (y_pickb rfl rfl rfl) ?_) | (refine Hd.yg rfl rfl (y_pick rfl rfl rfl) ?_)
          refine Hd.nil ?_
          exact Hd.mend (by repeat (first | exact trivial | refine ⟨rfl, ?_⟩)) (Ent.sep enn)
        · intro hg9_34
          try simp only [decide_eq_true_eq, decide_eq_false_iff_not, Bool.and_eq_true, Bool.or_eq_true, Bool.and_eq_false_iff, Bool.or_eq_false_iff, Bool.not_eq_true', Bool.not_eq_false', Bool.not_eq_true, Bool.not_eq_false, Int.not_lt, Int.not_le, Decidable.not_not, ne_eq] at hg9_34
          simp only [List.take]
          refine Hd.yg rfl rfl (y_move rfl) ?_
          refine Hd.yg rfl rfl (y_move rfl) ?_
          refine Hd.yg rfl rfl (y_nilp rfl) ?_
          first | (refine Hd.yg rfl rfl (y_field' (q := 5) (ft := 3) Tryd.underlying101 rfl sz3 rfl rfl) ?_) | (refine Hd.yg rfl rfl (y_fieldR (q := 5) (ft := 3) Tryd.underlying101 rfl sz3 rfl rfl) ?_)
          first | (refine Hd.yg rfl rfl (y_load1 ag3 rfl (Rd.pt1 pkk (by (first | rfl)))) ?_) | (refine Hd.yg rfl rfl (y_load1 ag3 rfl (Rd.seg1 pkk (by (first | rfl)))) ?_) | (refine Hd.yg rfl rfl (y_load1 ag3 rfl (Rd.segK1 pkk (by decide) (by (first | rfl)))) ?_) | (refine Hd.yg rfl rfl (y_loadR1 ag3 rfl (by (first | exact RdS.own pkk)) (by (first | rfl))) ?_)
          refine Hd.yg rfl rfl (y_lss rfl rfl) ?_
          first | (refine Hd.yg rfl rfl (y_pickT rfl rfl) ?_) | (refine Hd.yg rfl rfl (y_pickF rfl rfl) ?_) | (refine Hd.yg rfl rfl (y_pickb rfl rfl rfl) ?_) | (refine Hd.yg rfl rfl (y_pick rfl rfl rfl) ?_)
          refine Hd.nil ?_
          exact Hd.mend (by repeat (first | exact trivial | refine ⟨rfl, ?_⟩)) (Ent.sep enn)
        simp only [List.drop]
        first | (refine Hd.yv (y_pickT rfl rfl) ?_) | (refine Hd.yv (y_pickF rfl rfl) ?_) | (refine Hd.yv (y_pickb rfl rfl rfl) ?_) | (refine Hd.yv (y_pick rfl rfl rfl) ?_)
        refine Hd.nil ?_
        exact Hd.mend (by repeat (first | exact trivial | refine ⟨rfl, ?_⟩)) (Ent.sep enn)
      · intro hg9_28
        try simp only [decide_eq_true_eq, decide_eq_false_iff_not, Bool.and_eq_true, Bool.or_eq_true, Bool.and_eq_false_iff, Bool.or_eq_false_iff, Bool.not_eq_true', Bool.not_eq_false', Bool.not_eq_true, Bool.not_eq_false, Int.not_lt, Int.not_le, Decidable.not_not, ne_eq] at hg9_28
        simp only [List.take]
        refine Hd.ng rfl rfl rfl ?_
        refine Hd.ng rfl rfl rfl ?_
        refine Hd.ng rfl rfl rfl ?_
        refine Hd.ng rfl rfl rfl ?_
        refine Hd.ng rfl rfl rfl ?_
        refine Hd.ng rfl rfl rfl ?_
        refine Hd.ng rfl rfl rfl ?_
        refine Hd.ng rfl rfl rfl ?_
        refine Hd.ng rfl rfl rfl ?_
        refine Hd.ng rfl rfl rfl ?_
        refine Hd.ng rfl rfl rfl ?_
        refine Hd.ng rfl rfl rfl ?_
        refine Hd.ng rfl rfl rfl ?_
        first | (refine Hd.yv (y_pickT rfl rfl) ?_) | (refine Hd.yv (y_pickF rfl rfl) ?_) | (refine Hd.yv (y_pickb rfl rfl rfl) ?_) | (refine Hd.yv (y_pick rfl rfl rfl) ?_)
        refine Hd.nil ?_
        exact Hd.mend (by repeat (first | exact trivial | refine ⟨rfl, ?_⟩)) (Ent.sep enn)
      simp only [List.drop]
      refine Hd.yv (y_assign rfl) ?_
      refine Hd.nil ?_
      refine Hd.heap (BufP b wb x :: _) (fun q s => buf_backK hc q (by exact Ent.sep enn q s)) ?_
      refine Hd.slots [(3, _), (4, _), (6, _), (25, _)] ⟨rfl, rfl, rfl, rfl, trivial⟩ ?_
      refine Hd.toK hK11 ?_
      refine Hd.cond rfl (fun hc2 => ?_) (fun hc2 => ?_)
      ·
        try simp only [decide_eq_true_eq, decide_eq_false_iff_not, Bool.and_eq_true, Bool.or_eq_true, Bool.and_eq_false_iff, Bool.or_eq_false_iff, Bool.not_eq_true', Bool.not_eq_false', Bool.not_eq_true, Bool.not_eq_false, Int.not_lt, Int.not_le, Decidable.not_not, ne_eq] at hc2
        refine Hd.skip ?_
        refine Hd.toK hK10 ?_
        refine Hd.cond rfl (fun hc3 => ?_) (fun hc3 => ?_)
        ·
          try simp only [decide_eq_true_eq, decide_eq_false_iff_not, Bool.and_eq_true, Bool.or_eq_true, Bool.and_eq_false_iff, Bool.or_eq_false_iff, Bool.not_eq_true', Bool.not_eq_false', Bool.not_eq_true, Bool.not_eq_false, Int.not_lt, Int.not_le, Decidable.not_not, ne_eq] at hc3
          refine Hd.drawsH ([pt b3 [.int .i64 (waM x pre)] 3]) (fun j => !([4].contains j)) mixed ?_
          simp only [List.length, Nat.zero_add, Nat.reduceAdd]
          first | (refine Hd.takeH 0 rfl (by kernel_rfl) (by kernel_rfl) (by kernel_rfl) (by kernel_rfl) (y_load1 ag3 rfl (Rd.pt1 pkk (by (first | rfl)))) (fun _ _ => rfl) (Ent.sep enn) ?_) | (refine Hd.takeH 0 rfl (by kernel_rfl) (by kernel_rfl) (by kernel_rfl) (by kernel_rfl) (y_load1 ag3 rfl (Rd.seg1 pkk (by (first | rfl)))) (fun _ _ => rfl) (Ent.sep enn) ?_) | (refine Hd.takeH 0 rfl (by kernel_rfl) (by kernel_rfl) (by kernel_rfl) (by kernel_rfl) (y_load1 ag3 rfl (Rd.segK1 pkk (by decide) (by (first | rfl)))) (fun _ _ => rfl) (Ent.sep enn) ?_) | (refine Hd.takeH 0 rfl (by kernel_rfl) (by kernel_rfl) (by kernel_rfl) (by kernel_rfl) (y_loadR1 ag3 rfl (by (first | exact RdS.own pkk)) (by (first | rfl))) (fun _ _ => rfl) (Ent.sep enn) ?_)
          refine Hd.takeH 1 rfl (by kernel_rfl) (by kernel_rfl) (by kernel_rfl) (by kernel_rfl) (y_move rfl) (fun _ _ => rfl) (Ent.sep enn) ?_
          refine Hd.onlyH 2 rfl (by kernel_rfl) ?_
          refine Hd.callE rfl fk54 (flag_ct _ c) (Ent.sep enn) ?_
          intro _
          refine Hd.nil ?_
          refine Hd.thenN ?_
          refine Hd.heldK (J := (fun j => !([4].contains j))) (i := 2) (Ent.sep enn) ?_
          refine Hd.takeH 3 rfl (by kernel_rfl) (by kernel_rfl) (by kernel_rfl) (by kernel_rfl) (y_or rfl rfl) (fun _ _ => rfl) (Ent.sep enn) ?_
          refine Hd.onlyH 4 rfl (by kernel_rfl) ?_
          first | (refine Hd.store1 sz3 rfl rfl rfl pkk (by first | decide | (simp; done) | (simp; omega)) ?_) | (refine Hd.storeG1 sz3 rfl rfl rfl pkk (by first | decide | (simp; done) | (simp; omega)) ?_) | (refine Hd.storeO1 sz3 rfl rfl rfl pkk (by first | omega | (simp; done) | (simp; omega)) ?_) | (refine Hd.storeK1 sz3 rfl rfl rfl pkk (by decide) (by first | decide | (simp; done) | (simp; omega)) ?_)
          try simp only [List.set_cons_zero, List.set_cons_succ]
          refine Hd.nil ?_
          refine Hd.thenN ?_
          refine Hd.heldN (J := (fun j => !([4].contains j))) (i := 4) rfl ?_
          refine Hd.endH (by kernel_rfl) ?_
          refine Hd.slots [(3, _)] ⟨rfl, trivial⟩ ?_
          refine Hd.inB ?_
          refine Hd.inB ?_
          clear hK1 hK2 hK3 hK4 hK5 hK6 hK7 hK8 hK9 hK10 hK11
          refine Hd.reN ?_
          simp only [List.cons_append, List.nil_append]
          rw [hsn, if_pos (by unfold wantK; simp only [Bool.or_eq_true, Bool.and_eq_true, decide_eq_true_eq, Bool.not_eq_true']; exact ⟨hc1, by omega⟩)]
          exact (Ent.sep enn)
        ·
          try simp only [decide_eq_true_eq, decide_eq_false_iff_not, Bool.and_eq_true, Bool.or_eq_true, Bool.and_eq_false_iff, Bool.or_eq_false_iff, Bool.not_eq_true', Bool.not_eq_false', Bool.not_eq_true, Bool.not_eq_false, Int.not_lt, Int.not_le, Decidable.not_not, ne_eq] at hc3
          refine Hd.skip ?_
          refine Hd.inB ?_
          refine Hd.inB ?_
          clear hK1 hK2 hK3 hK4 hK5 hK6 hK7 hK8 hK9 hK10 hK11
          refine Hd.reN ?_
          simp only [List.cons_append, List.nil_append]
          rw [hsn, if_neg (by unfold wantK; simp only [Bool.or_eq_true, Bool.and_eq_true, decide_eq_true_eq, Bool.not_eq_true']; intro h; omega)]
          exact (Ent.sep enn)
      ·
        try simp only [decide_eq_true_eq, decide_eq_false_iff_not, Bool.and_eq_true, Bool.or_eq_true, Bool.and_eq_false_iff, Bool.or_eq_false_iff, Bool.not_eq_true', Bool.not_eq_false', Bool.not_eq_true, Bool.not_eq_false, Int.not_lt, Int.not_le, Decidable.not_not, ne_eq] at hc2
        refine Hd.region ?_
        refine Hd.yv (y_move rfl) ?_
        first | (refine Hd.yv (y_eqlT rfl rfl) ?_) | (refine Hd.yv (y_eql rfl rfl) ?_)
        refine Hd.yv (y_move rfl) ?_
        apply Hd.andg 3 45 48 [(3, _), (4, _)] rfl ⟨rfl, rfl, trivial⟩
        · intro hg10_45
          try simp only [decide_eq_true_eq, decide_eq_false_iff_not, Bool.and_eq_true, Bool.or_eq_true, Bool.and_eq_false_iff, Bool.or_eq_false_iff, Bool.not_eq_true', Bool.not_eq_false', Bool.not_eq_true, Bool.not_eq_false, Int.not_lt, Int.not_le, Decidable.not_not, ne_eq] at hg10_45
          simp only [List.take]
          refine Hd.yg rfl rfl (y_move rfl) ?_
          refine Hd.yg rfl rfl (y_gtr rfl rfl) ?_
          first | (refine Hd.yv (y_pickT rfl rfl) ?_) | (refine Hd.yv (y_pickF rfl rfl) ?_) | (refine Hd.yv (y_pickb rfl rfl rfl) ?_) | (refine Hd.yv (y_pick rfl rfl rfl) ?_)
          refine Hd.nil ?_
          exact Hd.mend (by repeat (first | exact trivial | refine ⟨rfl, ?_⟩)) (Ent.sep enn)
        · intro hg10_45
          try simp only [decide_eq_true_eq, decide_eq_false_iff_not, Bool.and_eq_true, Bool.or_eq_true, Bool.and_eq_false_iff, Bool.or_eq_false_iff, Bool.not_eq_true', Bool.not_eq_false', Bool.not_eq_true, Bool.not_eq_false, Int.not_lt, Int.not_le, Decidable.not_not, ne_eq] at hg10_45
          simp only [List.take]
          refine Hd.ng rfl rfl rfl ?_
          refine Hd.ng rfl rfl rfl ?_
          first | (refine Hd.yv (y_pickT rfl rfl) ?_) | (refine Hd.yv (y_pickF rfl rfl) ?_) | (refine Hd.yv (y_pickb rfl rfl rfl) ?_) | (refine Hd.yv (y_pick rfl rfl rfl) ?_)
          refine Hd.nil ?_
          exact Hd.mend (by repeat (first | exact trivial | refine ⟨rfl, ?_⟩)) (Ent.sep enn)
        simp only [List.drop]
        refine Hd.yv (y_assign rfl) ?_
        refine Hd.nil ?_
        refine Hd.slots [(3, _), (4, _), (25, _)] ⟨rfl, rfl, rfl, trivial⟩ ?_
        refine Hd.toK hK10 ?_
        refine Hd.cond rfl (fun hc3 => ?_) (fun hc3 => ?_)
        ·
          try simp only [decide_eq_true_eq, decide_eq_false_iff_not, Bool.and_eq_true, Bool.or_eq_true, Bool.and_eq_false_iff, Bool.or_eq_false_iff, Bool.not_eq_true', Bool.not_eq_false', Bool.not_eq_true, Bool.not_eq_false, Int.not_lt, Int.not_le, Decidable.not_not, ne_eq] at hc3
          refine Hd.drawsH ([pt b3 [.int .i64 (waM x pre)] 3]) (fun j => !([4].contains j)) mixed ?_
          simp only [List.length, Nat.zero_add, Nat.reduceAdd]
          first | (refine Hd.takeH 0 rfl (by kernel_rfl) (by kernel_rfl) (by kernel_rfl) (by kernel_rfl) (y_load1 ag3 rfl (Rd.pt1 pkk (by (first | rfl)))) (fun _ _ => rfl) (Ent.sep enn) ?_) | (refine Hd.takeH 0 rfl (by kernel_rfl) (by kernel_rfl) (by kernel_rfl) (by kernel_rfl) (y_load1 ag3 rfl (Rd.seg1 pkk (by (first | rfl)))) (fun _ _ => rfl) (Ent.sep enn) ?_) | (refine Hd.takeH 0 rfl (by kernel_rfl) (by kernel_rfl) (by kernel_rfl) (by kernel_rfl) (y_load1 ag3 rfl (Rd.segK1 pkk (by decide) (by (first | rfl)))) (fun _ _ => rfl) (Ent.sep enn) ?_) | (refine Hd.takeH 0 rfl (by kernel_rfl) (by kernel_rfl) (by kernel_rfl) (by kernel_rfl) (y_loadR1 ag3 rfl (by (first | exact RdS.own pkk)) (by (first | rfl))) (fun _ _ => rfl) (Ent.sep enn) ?_)
          refine Hd.takeH 1 rfl (by kernel_rfl) (by kernel_rfl) (by kernel_rfl) (by kernel_rfl) (y_move rfl) (fun _ _ => rfl) (Ent.sep enn) ?_
          refine Hd.onlyH 2 rfl (by kernel_rfl) ?_
          refine Hd.callE rfl fk54 (flag_ct _ c) (Ent.sep enn) ?_
          intro _
          refine Hd.nil ?_
          refine Hd.thenN ?_
          refine Hd.heldK (J := (fun j => !([4].contains j))) (i := 2) (Ent.sep enn) ?_
          refine Hd.takeH 3 rfl (by kernel_rfl) (by kernel_rfl) (by kernel_rfl) (by kernel_rfl) (y_or rfl rfl) (fun _ _ => rfl) (Ent.sep enn) ?_
          refine Hd.onlyH 4 rfl (by kernel_rfl) ?_
          first | (refine Hd.store1 sz3 rfl rfl rfl pkk (by first | decide | (simp; done) | (simp; omega)) ?_) | (refine Hd.storeG1 sz3 rfl rfl rfl pkk (by first | decide | (simp; done) | (simp; omega)) ?_) | (refine Hd.storeO1 sz3 rfl rfl rfl pkk (by first | omega | (simp; done) | (simp; omega)) ?_) | (refine Hd.storeK1 sz3 rfl rfl rfl pkk (by decide) (by first | decide | (simp; done) | (simp; omega)) ?_)
          try simp only [List.set_cons_zero, List.set_cons_succ]
          refine Hd.nil ?_
          refine Hd.thenN ?_
          refine Hd.heldN (J := (fun j => !([4].contains j))) (i := 4) rfl ?_
          refine Hd.endH (by kernel_rfl) ?_
          refine Hd.slots [(3, _)] ⟨rfl, trivial⟩ ?_
          refine Hd.inB ?_
          refine Hd.inB ?_
          clear hK1 hK2 hK3 hK4 hK5 hK6 hK7 hK8 hK9 hK10 hK11
          refine Hd.reN ?_
          simp only [List.cons_append, List.nil_append]
          rw [hsn, if_pos (by unfold wantK; simp only [Bool.or_eq_true, Bool.and_eq_true, decide_eq_true_eq, Bool.not_eq_true']; exact ⟨hc1, by omega⟩)]
          exact (Ent.sep enn)
        ·
          try simp only [decide_eq_true_eq, decide_eq_false_iff_not, Bool.and_eq_true, Bool.or_eq_true, Bool.and_eq_false_iff, Bool.or_eq_false_iff, Bool.not_eq_true', Bool.not_eq_false', Bool.not_eq_true, Bool.not_eq_false, Int.not_lt, Int.not_le, Decidable.not_not, ne_eq] at hc3
          refine Hd.skip ?_
          refine Hd.inB ?_
          refine Hd.inB ?_
          clear hK1 hK2 hK3 hK4 hK5 hK6 hK7 hK8 hK9 hK10 hK11
          refine Hd.reN ?_
          simp only [List.cons_append, List.nil_append]
          rw [hsn, if_neg (by unfold wantK; simp only [Bool.or_eq_true, Bool.and_eq_true, decide_eq_true_eq, Bool.not_eq_true']; intro h; omega)]
          exact (Ent.sep enn)
  ·
    intro r0 ys hys
    obtain rfl : ys = sidesA (onM x (sidesA 6)) := hys
    try simp only [List.cons_append, List.nil_append]
    refine Hd.inB ?_
    refine Hd.toK hK5 ?_
    refine Hd.seq (fun K12 hK12 => ?_)
    refine Hd.region ?_
    first | (refine Hd.yv (y_load1 ag3 rfl (Rd.pt1 pkk (by (first | rfl)))) ?_) | (refine Hd.yv (y_load1 ag3 rfl (Rd.seg1 pkk (by (first | rfl)))) ?_) | (refine Hd.yv (y_load1 ag3 rfl (Rd.segK1 pkk (by decide) (by (first | rfl)))) ?_) | (refine Hd.yv (y_loadR1 ag3 rfl (by (first | exact RdS.own pkk)) (by (first | rfl))) ?_)
    refine Hd.yv (y_assign rfl) ?_
    refine Hd.nil ?_
    refine Hd.slots [(2, _)] ⟨rfl, trivial⟩ ?_
    refine Hd.toK hK12 ?_
    refine Hd.ret ?_
    clear hK1 hK2 hK3 hK4 hK5 hK6 hK12
    exact Hd.retM (fun a fr => Lv.mark pkk (Lv.end1 fr rfl () rfl (Ent.sep enn)))
  ·
    rintro r0_0 (_ | id0) pre0 hG0
    ·
      exact Hd.absurd (by first | exact id | simp)
    ·
      exact Hd.absurd (by first | exact id | simp)
structure ToA where
  r : Bool
  w : Bool
  ev : Int
  e : Int
  i : Int
  o : Int
abbrev encT (t : ToA) : List Value := [.bool t.r, .bool t.w, .int .i64 t.ev, .int .i64 t.e, .int .i64 t.i, .int .i64 t.o]
def noT : ToA := ⟨false, false, 0, 0, 0, 0⟩
abbrev ToP (bt : Nat) (t : ToA) : SP := pt bt (encT t) 37
abbrev stopF (s : SdA) : SdA := { s with on := false, ended := true, at_ := NV }
def stopE (t : ToA) (e : Int) : Int := if t.e = 0 then e else t.e
abbrev stopT (t : ToA) (ev e : Int) : ToA := { t with ev := bits .or .i64 t.ev ev, e := stopE t e }
set_option maxHeartbeats 2000000 in
theorem stop_ct (L : List SP) (b k bt : Nat) (s : SdA) (t : ToA) (ev e : Int) : Ct Tryd.prog 82 #[.pointer (some ⟨b, 2 + k * 8, none⟩), .pointer (some ⟨bt, 0, none⟩), .int .i64 ev, .int .i64 e] (SdL b k s (ToP bt t :: L)) (fun _ : Unit => .tuple #[]) (fun _ : Unit => SdL b k (stopF s) (ToP bt (stopT t ev e) :: L)) := by
  refine Ct.of (vs := [.pointer (some ⟨b, 2 + k * 8, none⟩), .pointer (some ⟨bt, 0, none⟩), .int .i64 ev, .int .i64 e]) Tryd.func82 rfl rfl [(0, .pointer (some ⟨b, 2 + k * 8, none⟩)), (1, .pointer (some ⟨bt, 0, none⟩)), (2, .int .i64 ev), (3, .int .i64 e)] (by repeat (first | exact trivial | refine ⟨rfl, ?_⟩)) ?_
  intro E
  show Hd E 34 _ _ _ _
  refine Hd.seq (fun K1 hK1 => ?_)
  refine Hd.region ?_
  refine Hd.yv (y_move rfl) ?_
  refine Hd.yv (y_move rfl) ?_
  refine Hd.yv (y_move rfl) ?_
  refine Hd.yv (y_nilp rfl) ?_
  first | (refine Hd.yv (y_field' (q := 2) (ft := 4) Tryd.underlying101 rfl sz4 rfl rfl) ?_) | (refine Hd.yv (y_fieldR (q := 2) (ft := 4) Tryd.underlying101 rfl sz4 rfl rfl) ?_)
  first | (refine Hd.store1 sz4 rfl rfl rfl pkk (by first | decide | (simp; done) | (simp; omega)) ?_) | (refine Hd.storeG1 sz4 rfl rfl rfl pkk (by first | decide | (simp; done) | (simp; omega)) ?_) | (refine Hd.storeO1 sz4 rfl rfl rfl pkk (by first | omega | (simp; done) | (simp; omega)) ?_) | (refine Hd.storeK1 sz4 rfl rfl rfl pkk (by decide) (by first | decide | (simp; done) | (simp; omega)) ?_)
  try simp only [List.set_cons_zero, List.set_cons_succ]
  refine Hd.yv (y_nilp rfl) ?_
  first | (refine Hd.yv (y_field' (q := 3) (ft := 4) Tryd.underlying101 rfl sz4 rfl rfl) ?_) | (refine Hd.yv (y_fieldR (q := 3) (ft := 4) Tryd.underlying101 rfl sz4 rfl rfl) ?_)
  first | (refine Hd.store1 sz4 rfl rfl rfl pkk (by first | decide | (simp; done) | (simp; omega)) ?_) | (refine Hd.storeG1 sz4 rfl rfl rfl pkk (by first | decide | (simp; done) | (simp; omega)) ?_) | (refine Hd.storeO1 sz4 rfl rfl rfl pkk (by first | omega | (simp; done) | (simp; omega)) ?_) | (refine Hd.storeK1 sz4 rfl rfl rfl pkk (by decide) (by first | decide | (simp; done) | (simp; omega)) ?_)
  try simp only [List.set_cons_zero, List.set_cons_succ]
  refine Hd.yv (y_nilp rfl) ?_
  first | (refine Hd.yv (y_field' (q := 7) (ft := 22) Tryd.underlying101 rfl sz22 rfl rfl) ?_) | (refine Hd.yv (y_fieldR (q := 7) (ft := 22) Tryd.underlying101 rfl sz22 rfl rfl) ?_)
  first | (refine Hd.store1 sz22 rfl rfl rfl pkk (by first | decide | (simp; done) | (simp; omega)) ?_) | (refine Hd.storeG1 sz22 rfl rfl rfl pkk (by first | decide | (simp; done) | (simp; omega)) ?_) | (refine Hd.storeO1 sz22 rfl rfl rfl pkk (by first | omega | (simp; done) | (simp; omega)) ?_) | (refine Hd.storeK1 sz22 rfl rfl rfl pkk (by decide) (by first | decide | (simp; done) | (simp; omega)) ?_)
  try simp only [List.set_cons_zero, List.set_cons_succ]
  refine Hd.nil ?_
  refine Hd.slots [(1, _), (2, _), (3, _)] ⟨rfl, rfl, rfl, trivial⟩ ?_
  refine Hd.toK hK1 ?_
  refine Hd.seq (fun K2 hK2 => ?_)
  refine Hd.region ?_
  refine Hd.yv (y_move rfl) ?_
  refine Hd.yv (y_nilp rfl) ?_
  first | (refine Hd.yv (y_field' (q := 2) (ft := 3) Tryd.underlying37 rfl sz3 rfl rfl) ?_) | (refine Hd.yv (y_fieldR (q := 2) (ft := 3) Tryd.underlying37 rfl sz3 rfl rfl) ?_)
  first | (refine Hd.yv (y_load1 ag3 rfl (Rd.pt1 pkk (by (first | rfl)))) ?_) | (refine Hd.yv (y_load1 ag3 rfl (Rd.seg1 pkk (by (first | rfl)))) ?_) | (refine Hd.yv (y_load1 ag3 rfl (Rd.segK1 pkk (by decide) (by (first | rfl)))) ?_) | (refine Hd.yv (y_loadR1 ag3 rfl (by (first | exact RdS.own pkk)) (by (first | rfl))) ?_)
  refine Hd.yv (y_move rfl) ?_
  refine Hd.yv (y_or rfl rfl) ?_
  refine Hd.yv (y_nilp rfl) ?_
  first | (refine Hd.yv (y_field' (q := 2) (ft := 3) Tryd.underlying37 rfl sz3 rfl rfl) ?_) | (refine Hd.yv (y_fieldR (q := 2) (ft := 3) Tryd.underlying37 rfl sz3 rfl rfl) ?_)
  first | (refine Hd.store1 sz3 rfl rfl rfl pkk (by first | decide | (simp; done) | (simp; omega)) ?_) | (refine Hd.storeG1 sz3 rfl rfl rfl pkk (by first | decide | (simp; done) | (simp; omega)) ?_) | (refine Hd.storeO1 sz3 rfl rfl rfl pkk (by first | omega | (simp; done) | (simp; omega)) ?_) | (refine Hd.storeK1 sz3 rfl rfl rfl pkk (by decide) (by first | decide | (simp; done) | (simp; omega)) ?_)
  try simp only [List.set_cons_zero, List.set_cons_succ]
  refine Hd.nil ?_
  refine Hd.slots [(1, _), (3, _)] ⟨rfl, rfl, trivial⟩ ?_
  refine Hd.toK hK2 ?_
  refine Hd.seq (fun K3 hK3 => ?_)
  refine Hd.region ?_
  refine Hd.yv (y_move rfl) ?_
  refine Hd.yv (y_nilp rfl) ?_
  first | (refine Hd.yv (y_field' (q := 3) (ft := 31) Tryd.underlying37 rfl sz31 rfl rfl) ?_) | (refine Hd.yv (y_fieldR (q := 3) (ft := 31) Tryd.underlying37 rfl sz31 rfl rfl) ?_)
  first | (refine Hd.yv (y_load1 ag31 rfl (Rd.pt1 pkk (by (first | rfl)))) ?_) | (refine Hd.yv (y_load1 ag31 rfl (Rd.seg1 pkk (by (first | rfl)))) ?_) | (refine Hd.yv (y_load1 ag31 rfl (Rd.segK1 pkk (by decide) (by (first | rfl)))) ?_) | (refine Hd.yv (y_loadR1 ag31 rfl (by (first | exact RdS.own pkk)) (by (first | rfl))) ?_)
  first | (refine Hd.yv (y_eqlT rfl rfl) ?_) | (refine Hd.yv (y_eql rfl rfl) ?_)
  refine Hd.nil ?_
  refine Hd.slots [(1, _), (3, _), (29, _)] ⟨rfl, rfl, rfl, trivial⟩ ?_
  refine Hd.toK hK3 ?_
  refine Hd.cond rfl (fun hc0 => ?_) (fun hc0 => ?_)
  ·
    try simp only [decide_eq_true_eq, decide_eq_false_iff_not, Bool.and_eq_true, Bool.or_eq_true, Bool.and_eq_false_iff, Bool.or_eq_false_iff, Bool.not_eq_true', Bool.not_eq_false', Bool.not_eq_true, Bool.not_eq_false, Int.not_lt, Int.not_le, Decidable.not_not, ne_eq] at hc0
    refine Hd.region ?_
    refine Hd.yv (y_move rfl) ?_
    refine Hd.yv (y_move rfl) ?_
    refine Hd.yv (y_nilp rfl) ?_
    first | (refine Hd.yv (y_field' (q := 3) (ft := 31) Tryd.underlying37 rfl sz31 rfl rfl) ?_) | (refine Hd.yv (y_fieldR (q := 3) (ft := 31) Tryd.underlying37 rfl sz31 rfl rfl) ?_)
    first | (refine Hd.store1 sz31 rfl rfl rfl pkk (by first | decide | (simp; done) | (simp; omega)) ?_) | (refine Hd.storeG1 sz31 rfl rfl rfl pkk (by first | decide | (simp; done) | (simp; omega)) ?_) | (refine Hd.storeO1 sz31 rfl rfl rfl pkk (by first | omega | (simp; done) | (simp; omega)) ?_) | (refine Hd.storeK1 sz31 rfl rfl rfl pkk (by decide) (by first | decide | (simp; done) | (simp; omega)) ?_)
    try simp only [List.set_cons_zero, List.set_cons_succ]
    refine Hd.nil ?_
    refine Hd.slots [] trivial ?_
    clear hK1 hK2 hK3
    have h : stopE t e = e := by unfold stopE; rw [if_pos hc0]
    have hq : [Value.bool t.r, .bool t.w, .int .i64 (bits .or .i64 t.ev ev), .int .i64 (e), .int .i64 t.i, .int .i64 t.o] = encT (stopT t ev e) := by
      show _ = [Value.bool t.r, .bool t.w, .int .i64 (bits .or .i64 t.ev ev), .int .i64 (stopE t e), .int .i64 t.i, .int .i64 t.o]
      rw [h]
    exact Hd.end0 rfl () rfl (Ent.sep (.pick pkk (.eq pkk (segK_eq (by rfl)) (.eq pkk (pt_eq hq) enn))))
  ·
    try simp only [decide_eq_true_eq, decide_eq_false_iff_not, Bool.and_eq_true, Bool.or_eq_true, Bool.and_eq_false_iff, Bool.or_eq_false_iff, Bool.not_eq_true', Bool.not_eq_false', Bool.not_eq_true, Bool.not_eq_false, Int.not_lt, Int.not_le, Decidable.not_not, ne_eq] at hc0
    refine Hd.skip ?_
    clear hK1 hK2 hK3
    have h : stopE t e = t.e := by unfold stopE; rw [if_neg hc0]
    have hq : [Value.bool t.r, .bool t.w, .int .i64 (bits .or .i64 t.ev ev), .int .i64 (t.e), .int .i64 t.i, .int .i64 t.o] = encT (stopT t ev e) := by
      show _ = [Value.bool t.r, .bool t.w, .int .i64 (bits .or .i64 t.ev ev), .int .i64 (stopE t e), .int .i64 t.i, .int .i64 t.o]
      rw [h]
    exact Hd.end0 rfl () rfl (Ent.sep (.pick pkk (.eq pkk (segK_eq (by rfl)) (.eq pkk (pt_eq hq) enn))))
end Bu
end Go.Proofs.YtmpemhbfgbochaaDoor
namespace Go.Proofs.YtmpemhbfgbochaaDoor
set_option linter.unusedSimpArgs false
set_option linter.unusedVariables false
set_option linter.unnecessarySimpa false
open Go.RX Fx
namespace Bu
open Wo
set_option maxRecDepth 8000
def rdN (s : SdA) (most : Int) : Int := if s.high > 0 then min (min (min most 4096) (1048576 - (s.c.length : Int))) (s.high - (s.c.length : Int)) else min (min most 4096) (1048576 - (s.c.length : Int))
structure StA where
  x : BfA
  w : WA
  t : ToA
abbrev getF (now : Int) (bs : List UInt8) (s : SdA) : SdA := setA 0 now { s with c := addA s.c bs }
def rdP (σ : StA) (now : Int) (r : (List UInt8 × Bool × Int) × WA) : StA :=
  if r.1.2.1 = true then ⟨σ.x.up 0 fun s => stopF s, r.2, stopT σ.t 17 0⟩
  else if r.1.2.2 = 113 then ⟨σ.x, r.2, σ.t⟩
  else if r.1.2.2 ≠ 0 then ⟨σ.x.up 0 fun s => stopF s, r.2, stopT σ.t 33 r.1.2.2⟩
  else ⟨σ.x.up 0 (getF now r.1.1), r.2, { σ.t with i := (r.1.1.length : Int), r := decide (((addA (σ.x.s 0).c r.1.1).length : Int) ≥ (σ.x.s 0).low) }⟩
def readS (σ : StA) (now most : Int) : StA := if rdN (σ.x.s 0) most < 1 then σ else rdP σ now (readR σ.w σ.x.fd (rdN (σ.x.s 0) most))
theorem readR_len (w : WA) (fd n : Int) : (readR w fd n).1.1.length ≤ 65536 ∨ ¬ WOk w := by
  by_cases h : WOk w
  · left
    unfold readR
    split
    · simp
    · rename_i m k hat
      split
      · simp
      · rename_i x hx
        have hwf := h.wf x (List.mem_of_getElem? hx)
        obtain ⟨_, _, hk, _⟩ := h.at_lt hat
        have h1 := hwf.le k hk
        have h2 := hwf.cap
        repeat' split
        all_goals first
          | (simp; done)
          | (rw [List.length_take]; omega)
  · right; exact h
theorem Hd.worldOk {E : World} {n : Nat} {ds : List Deferred} {st : List (Nat × Value)} {L L' : List SP} {K : Act → World → Prop} {wb : Nat} {w : WA} (p : Pick L (WorldP wb w) L') (h : WOk w → Hd E n ds st L K) : Hd E n ds st L K := fun a v f s => by
  refine h ?_ a v f s
  obtain ⟨h1, s1, i, x⟩ := sep.one p s.2.2.2
  exact (sep_pure (p := WOk w ∧ i.rs.map Prod.snd = w.ws) x).1.1
set_option maxHeartbeats 2000000 in
theorem read_ct (L : List SP) (b wb bt : Nat) (x : BfA) (w : WA) (t : ToA) (ht : TmOk x) (now most : Int) (hn : InK .u64 now) (hm : most ≤ 9223372036854775807) (hh : InK .i64 (x.s 0).high) : Ct Tryd.prog 55 #[.pointer (some ⟨b, 0, none⟩), .int .u64 now, .int .i64 most, .pointer (some ⟨bt, 0, none⟩)] (BufP b wb x :: WorldP wb w :: ToP bt t :: L) (fun _ : Unit => .tuple #[]) (fun _ : Unit => BufP b wb (readS ⟨x, w, t⟩ now most).x :: WorldP wb (readS ⟨x, w, t⟩ now most).w :: ToP bt (readS ⟨x, w, t⟩ now most).t :: L) := by
  refine Ct.of (vs := [.pointer (some ⟨b, 0, none⟩), .int .u64 now, .int .i64 most, .pointer (some ⟨bt, 0, none⟩)]) Tryd.func55 rfl rfl [(0, .pointer (some ⟨b, 0, none⟩)), (1, .int .u64 now), (2, .int .i64 most), (3, .pointer (some ⟨bt, 0, none⟩))] (by repeat (first | exact trivial | refine ⟨rfl, ?_⟩)) ?_
  intro E
  show Hd E 96 _ _ _ _
  simp only [InK] at hh
  refine Hd.buf .here ?_
  refine Hd.chB (b := b) (o := 2 + 0 * 8 + 0) pkk (fun hcl => ?_)
  refine Hd.worldOk (wb := wb) (w := w) pkk (fun hwo => ?_)
  have hS : ¬ rdN (x.s 0) most < 1 → readS ⟨x, w, t⟩ now most = rdP ⟨x, w, t⟩ now (readR w x.fd (rdN (x.s 0) most)) := fun h => if_neg h
  have hlen := (readR_len w x.fd (rdN (x.s 0) most)).resolve_right (fun h => h hwo)
  obtain ⟨⟨⟨bs, eo, ec⟩, w'⟩, hrr⟩ : ∃ rr, readR w x.fd (rdN (x.s 0) most) = rr := ⟨_, rfl⟩
  rw [hrr] at hS hlen
  dsimp only at hlen
  refine Hd.seq (fun K1 hK1 => ?_)
  refine Hd.region ?_
  refine Hd.yv (y_move rfl) ?_
  refine Hd.yv (y_nilp rfl) ?_
  first | (refine Hd.yv (y_field' (q := 2) (ft := 102) Tryd.underlying104 rfl sz102 rfl rfl) ?_) | (refine Hd.yv (y_fieldR (q := 2) (ft := 102) Tryd.underlying104 rfl sz102 rfl rfl) ?_)
  refine Hd.yv (y_idxA Tryd.underlying102 sz101 rfl rfl (by first | omega | decide)) ?_
  refine Hd.yv (y_assign rfl) ?_
  refine Hd.nil ?_
  refine Hd.slots [(0, _), (1, _), (2, _), (3, _), (8, _)] ⟨rfl, rfl, rfl, rfl, rfl, trivial⟩ ?_
  refine Hd.toK hK1 ?_
  refine Hd.seq (fun K2 hK2 => ?_)
  refine Hd.region ?_
  refine Hd.yv (y_move rfl) ?_
  refine Hd.yv (y_move rfl) ?_
  refine Hd.yv (y_nilp rfl) ?_
  first | (refine Hd.yv (y_field' (q := 0) (ft := 99) Tryd.underlying101 rfl sz99 rfl rfl) ?_) | (refine Hd.yv (y_fieldR (q := 0) (ft := 99) Tryd.underlying101 rfl sz99 rfl rfl) ?_)
  refine Hd.callE rfl fk53 (chLen _ b (2 + 0 * 8 + 0) (x.s 0).c) (Ent.sep enn) ?_
  intro _
  first | (refine Hd.yv (y_subn rfl rfl (by simp only [InK]; omega)) ?_) | (refine Hd.yv (y_sub rfl rfl) ?_)
  refine Hd.yv (y_min3 rfl rfl rfl) ?_
  refine Hd.yv (y_assign rfl) ?_
  refine Hd.nil ?_
  refine Hd.slots [(0, _), (1, _), (3, _), (8, _), (9, _)] ⟨rfl, rfl, rfl, rfl, rfl, trivial⟩ ?_
  refine Hd.toK hK2 ?_
  refine Hd.cutK (ι := Unit) [(0, _), (1, _), (3, _), (8, _)] (fun _ => [(9, .int .i64 (rdN (x.s 0) most))]) (fun _ => BfL b wb x 0 (WorldP wb w :: ToP bt t :: L)) ?_ ?_ ⟨rfl, rfl, rfl, rfl, trivial⟩
  ·
    refine Hd.seq (fun K3 hK3 => ?_)
    refine Hd.region ?_
    refine Hd.yv (y_move rfl) ?_
    refine Hd.yv (y_nilp rfl) ?_
    first | (refine Hd.yv (y_field' (q := 5) (ft := 3) Tryd.underlying101 rfl sz3 rfl rfl) ?_) | (refine Hd.yv (y_fieldR (q := 5) (ft := 3) Tryd.underlying101 rfl sz3 rfl rfl) ?_)
    first | (refine Hd.yv (y_load1 ag3 rfl (Rd.pt1 pkk (by (first | rfl)))) ?_) | (refine Hd.yv (y_load1 ag3 rfl (Rd.seg1 pkk (by (first | rfl)))) ?_) | (refine Hd.yv (y_load1 ag3 rfl (Rd.segK1 pkk (by decide) (by (first | rfl)))) ?_) | (refine Hd.yv (y_loadR1 ag3 rfl (by (first | exact RdS.own pkk)) (by (first | rfl))) ?_)
    refine Hd.yv (y_gtr rfl rfl) ?_
    refine Hd.nil ?_
    refine Hd.slots [(0, _), (1, _), (3, _), (8, _), (9, _), (28, _)] ⟨rfl, rfl, rfl, rfl, rfl, rfl, trivial⟩ ?_
    refine Hd.toK hK3 ?_
    refine Hd.cond rfl (fun hc0 => ?_) (fun hc0 => ?_)
    ·
      try simp only [decide_eq_true_eq, decide_eq_false_iff_not, Bool.and_eq_true, Bool.or_eq_true, Bool.and_eq_false_iff, Bool.or_eq_false_iff, Bool.not_eq_true', Bool.not_eq_false', Bool.not_eq_true, Bool.not_eq_false, Int.not_lt, Int.not_le, Decidable.not_not, ne_eq] at hc0
      refine Hd.drawsH ([segK b (2 + 0 * 8) 2 (encS (x.s 0))]) (fun _ => true) mixed ?_
      simp only [List.length, Nat.zero_add, Nat.reduceAdd]
      refine Hd.takeH 0 rfl (by kernel_rfl) (by kernel_rfl) (by kernel_rfl) (by kernel_rfl) (y_move rfl) (fun _ _ => rfl) (Ent.sep enn) ?_
      refine Hd.takeH 1 rfl (by kernel_rfl) (by kernel_rfl) (by kernel_rfl) (by kernel_rfl) (y_move rfl) (fun _ _ => rfl) (Ent.sep enn) ?_
      refine Hd.takeH 2 rfl (by kernel_rfl) (by kernel_rfl) (by kernel_rfl) (by kernel_rfl) (y_nilp rfl) (fun _ _ => rfl) (Ent.sep enn) ?_
      first | (refine Hd.takeH 3 rfl (by kernel_rfl) (by kernel_rfl) (by kernel_rfl) (by kernel_rfl) (y_field' (q := 5) (ft := 3) Tryd.underlying101 rfl sz3 rfl rfl) (fun _ _ => rfl) (Ent.sep enn) ?_) | (refine Hd.takeH 3 rfl (by kernel_rfl) (by kernel_rfl) (by kernel_rfl) (by kernel_rfl) (y_fieldR (q := 5) (ft := 3) Tryd.underlying101 rfl sz3 rfl rfl) (fun _ _ => rfl) (Ent.sep enn) ?_)
      first | (refine Hd.takeH 4 rfl (by kernel_rfl) (by kernel_rfl) (by kernel_rfl) (by kernel_rfl) (y_load1 ag3 rfl (Rd.pt1 pkk (by (first | rfl)))) (fun _ _ => rfl) (Ent.sep enn) ?_) | (refine Hd.takeH 4 rfl (by kernel_rfl) (by kernel_rfl) (by kernel_rfl) (by kernel_rfl) (y_load1 ag3 rfl (Rd.seg1 pkk (by (first | rfl)))) (fun _ _ => rfl) (Ent.sep enn) ?_) | (refine Hd.takeH 4 rfl (by kernel_rfl) (by kernel_rfl) (by kernel_rfl) (by kernel_rfl) (y_load1 ag3 rfl (Rd.segK1 pkk (by decide) (by (first | rfl)))) (fun _ _ => rfl) (Ent.sep enn) ?_) | (refine Hd.takeH 4 rfl (by kernel_rfl) (by kernel_rfl) (by kernel_rfl) (by kernel_rfl) (y_loadR1 ag3 rfl (by (first | exact RdS.own pkk)) (by (first | rfl))) (fun _ _ => rfl) (Ent.sep enn) ?_)
      refine Hd.takeH 5 rfl (by kernel_rfl) (by kernel_rfl) (by kernel_rfl) (by kernel_rfl) (y_move rfl) (fun _ _ => rfl) (Ent.sep enn) ?_
      refine Hd.takeH 6 rfl (by kernel_rfl) (by kernel_rfl) (by kernel_rfl) (by kernel_rfl) (y_nilp rfl) (fun _ _ => rfl) (Ent.sep enn) ?_
      first | (refine Hd.takeH 7 rfl (by kernel_rfl) (by kernel_rfl) (by kernel_rfl) (by kernel_rfl) (y_field' (q := 0) (ft := 99) Tryd.underlying101 rfl sz99 rfl rfl) (fun _ _ => rfl) (Ent.sep enn) ?_) | (refine Hd.takeH 7 rfl (by kernel_rfl) (by kernel_rfl) (by kernel_rfl) (by kernel_rfl) (y_fieldR (q := 0) (ft := 99) Tryd.underlying101 rfl sz99 rfl rfl) (fun _ _ => rfl) (Ent.sep enn) ?_)
      refine Hd.onlyH 8 rfl (by kernel_rfl) ?_
      refine Hd.callE rfl fk53 (chLen _ b (2 + 0 * 8 + 0) (x.s 0).c) (Ent.sep enn) ?_
      intro _
      refine Hd.nil ?_
      refine Hd.thenN ?_
      refine Hd.heldK (J := (fun _ => true)) (i := 8) (Ent.sep enn) ?_
      first | (refine Hd.takeH 9 rfl (by kernel_rfl) (by kernel_rfl) (by kernel_rfl) (by kernel_rfl) (y_subn rfl rfl (by simp only [InK]; omega)) (fun _ _ => rfl) (Ent.sep enn) ?_) | (refine Hd.takeH 9 rfl (by kernel_rfl) (by kernel_rfl) (by kernel_rfl) (by kernel_rfl) (y_sub rfl rfl) (fun _ _ => rfl) (Ent.sep enn) ?_)
      refine Hd.takeH 10 rfl (by kernel_rfl) (by kernel_rfl) (by kernel_rfl) (by kernel_rfl) (y_min rfl rfl) (fun _ _ => rfl) (Ent.sep enn) ?_
      refine Hd.takeH 11 rfl (by kernel_rfl) (by kernel_rfl) (by kernel_rfl) (by kernel_rfl) (y_assign rfl) (fun _ _ => rfl) (Ent.sep enn) ?_
      refine Hd.endH (by kernel_rfl) ?_
      refine Hd.slots [(0, _), (1, _), (3, _), (8, _), (9, _)] ⟨rfl, rfl, rfl, rfl, rfl, trivial⟩ ?_
      clear hK1 hK2 hK3
      refine Hd.thenN ?_
      have hn9 : rdN (x.s 0) most = min (min (min most 4096) (1048576 - ((x.s 0).c.length : Int))) ((x.s 0).high - ((x.s 0).c.length : Int)) := if_pos hc0
      rw [← hn9]
      exact Hd.meet () (by repeat (first | exact trivial | refine ⟨rfl, ?_⟩)) (Ent.sep enn)
    ·
      try simp only [decide_eq_true_eq, decide_eq_false_iff_not, Bool.and_eq_true, Bool.or_eq_true, Bool.and_eq_false_iff, Bool.or_eq_false_iff, Bool.not_eq_true', Bool.not_eq_false', Bool.not_eq_true, Bool.not_eq_false, Int.not_lt, Int.not_le, Decidable.not_not, ne_eq] at hc0
      refine Hd.skip ?_
      clear hK1 hK2 hK3
      refine Hd.thenN ?_
      have hn9 : rdN (x.s 0) most = min (min most 4096) (1048576 - ((x.s 0).c.length : Int)) := if_neg (by omega)
      rw [← hn9]
      exact Hd.meet () (by repeat (first | exact trivial | refine ⟨rfl, ?_⟩)) (Ent.sep enn)
  ·
    intro _
    refine Hd.seq (fun K4 hK4 => ?_)
    refine Hd.seq (fun K5 hK5 => ?_)
    refine Hd.region ?_
    refine Hd.yv (y_move rfl) ?_
    refine Hd.yv (y_lss rfl rfl) ?_
    refine Hd.nil ?_
    refine Hd.slots [(0, _), (1, _), (3, _), (8, _), (9, _), (41, _)] ⟨rfl, rfl, rfl, rfl, rfl, rfl, trivial⟩ ?_
    refine Hd.toK hK5 ?_
    refine Hd.cond rfl (fun hc1 => ?_) (fun hc1 => ?_)
    ·
      try simp only [decide_eq_true_eq, decide_eq_false_iff_not, Bool.and_eq_true, Bool.or_eq_true, Bool.and_eq_false_iff, Bool.or_eq_false_iff, Bool.not_eq_true', Bool.not_eq_false', Bool.not_eq_true, Bool.not_eq_false, Int.not_lt, Int.not_le, Decidable.not_not, ne_eq] at hc1
      refine Hd.ret ?_
      refine Hd.thenRet ?_
      clear hK1 hK2 hK4 hK5
      rw [show readS ⟨x, w, t⟩ now most = ⟨x, w, t⟩ from if_pos hc1]
      exact Hd.ret0 rfl () rfl (fun q s => buf_close rfl rfl rfl q (Ent.sep enn q s))
    ·
      try simp only [decide_eq_true_eq, decide_eq_false_iff_not, Bool.and_eq_true, Bool.or_eq_true, Bool.and_eq_false_iff, Bool.or_eq_false_iff, Bool.not_eq_true', Bool.not_eq_false', Bool.not_eq_true, Bool.not_eq_false, Int.not_lt, Int.not_le, Decidable.not_not, ne_eq] at hc1
      refine Hd.skip ?_
      refine Hd.toK hK4 ?_
      refine Hd.seq (fun K6 hK6 => ?_)
      refine Hd.drawsH ([BfH b wb x.fd]) (fun _ => true) mixed ?_
      simp only [List.length, Nat.zero_add, Nat.reduceAdd]
      refine Hd.takeH 0 rfl (by kernel_rfl) (by kernel_rfl) (by kernel_rfl) (by kernel_rfl) (y_move rfl) (fun _ _ => rfl) (Ent.sep enn) ?_
      refine Hd.takeH 1 rfl (by kernel_rfl) (by kernel_rfl) (by kernel_rfl) (by kernel_rfl) (y_nilp rfl) (fun _ _ => rfl) (Ent.sep enn) ?_
      first | (refine Hd.takeH 2 rfl (by kernel_rfl) (by kernel_rfl) (by kernel_rfl) (by kernel_rfl) (y_field' (q := 0) (ft := 27) Tryd.underlying104 rfl sz27 rfl rfl) (fun _ _ => rfl) (Ent.sep enn) ?_) | (refine Hd.takeH 2 rfl (by kernel_rfl) (by kernel_rfl) (by kernel_rfl) (by kernel_rfl) (y_fieldR (q := 0) (ft := 27) Tryd.underlying104 rfl sz27 rfl rfl) (fun _ _ => rfl) (Ent.sep enn) ?_)
      first | (refine Hd.takeH 3 rfl (by kernel_rfl) (by kernel_rfl) (by kernel_rfl) (by kernel_rfl) (y_load1 ag27 rfl (Rd.pt1 pkk (by (first | rfl)))) (fun _ _ => rfl) (Ent.sep enn) ?_) | (refine Hd.takeH 3 rfl (by kernel_rfl) (by kernel_rfl) (by kernel_rfl) (by kernel_rfl) (y_load1 ag27 rfl (Rd.seg1 pkk (by (first | rfl)))) (fun _ _ => rfl) (Ent.sep enn) ?_) | (refine Hd.takeH 3 rfl (by kernel_rfl) (by kernel_rfl) (by kernel_rfl) (by kernel_rfl) (y_load1 ag27 rfl (Rd.segK1 pkk (by decide) (by (first | rfl)))) (fun _ _ => rfl) (Ent.sep enn) ?_) | (refine Hd.takeH 3 rfl (by kernel_rfl) (by kernel_rfl) (by kernel_rfl) (by kernel_rfl) (y_loadR1 ag27 rfl (by (first | exact RdS.own pkk)) (by (first | rfl))) (fun _ _ => rfl) (Ent.sep enn) ?_)
      refine Hd.takeH 4 rfl (by kernel_rfl) (by kernel_rfl) (by kernel_rfl) (by kernel_rfl) (y_move rfl) (fun _ _ => rfl) (Ent.sep enn) ?_
      refine Hd.takeH 5 rfl (by kernel_rfl) (by kernel_rfl) (by kernel_rfl) (by kernel_rfl) (y_nilp rfl) (fun _ _ => rfl) (Ent.sep enn) ?_
      first | (refine Hd.takeH 6 rfl (by kernel_rfl) (by kernel_rfl) (by kernel_rfl) (by kernel_rfl) (y_field' (q := 1) (ft := 3) Tryd.underlying104 rfl sz3 rfl rfl) (fun _ _ => rfl) (Ent.sep enn) ?_) | (refine Hd.takeH 6 rfl (by kernel_rfl) (by kernel_rfl) (by kernel_rfl) (by kernel_rfl) (y_fieldR (q := 1) (ft := 3) Tryd.underlying104 rfl sz3 rfl rfl) (fun _ _ => rfl) (Ent.sep enn) ?_)
      first | (refine Hd.takeH 7 rfl (by kernel_rfl) (by kernel_rfl) (by kernel_rfl) (by kernel_rfl) (y_load1 ag3 rfl (Rd.pt1 pkk (by (first | rfl)))) (fun _ _ => rfl) (Ent.sep enn) ?_) | (refine Hd.takeH 7 rfl (by kernel_rfl) (by kernel_rfl) (by kernel_rfl) (by kernel_rfl) (y_load1 ag3 rfl (Rd.seg1 pkk (by (first | rfl)))) (fun _ _ => rfl) (Ent.sep enn) ?_) | (refine Hd.takeH 7 rfl (by kernel_rfl) (by kernel_rfl) (by kernel_rfl) (by kernel_rfl) (y_load1 ag3 rfl (Rd.segK1 pkk (by decide) (by (first | rfl)))) (fun _ _ => rfl) (Ent.sep enn) ?_) | (refine Hd.takeH 7 rfl (by kernel_rfl) (by kernel_rfl) (by kernel_rfl) (by kernel_rfl) (y_loadR1 ag3 rfl (by (first | exact RdS.own pkk)) (by (first | rfl))) (fun _ _ => rfl) (Ent.sep enn) ?_)
      refine Hd.takeH 8 rfl (by kernel_rfl) (by kernel_rfl) (by kernel_rfl) (by kernel_rfl) (y_move rfl) (fun _ _ => rfl) (Ent.sep enn) ?_
      refine Hd.onlyH 9 rfl (by kernel_rfl) ?_
      refine Hd.callE rfl fk81 (wread_ct _ wb w x.fd (rdN (x.s 0) most)) (Ent.sep enn) ?_
      rintro ⟨ad, c⟩
      rw [hrr]
      dsimp only
      refine Hd.nil ?_
      refine Hd.thenN ?_
      refine Hd.heldK (J := (fun _ => true)) (i := 9) (Ent.sep enn) ?_
      refine Hd.takeH 10 rfl (by kernel_rfl) (by kernel_rfl) (by kernel_rfl) (by kernel_rfl) (y_move rfl) (fun _ _ => rfl) (Ent.sep enn) ?_
      refine Hd.takeH 11 rfl (by kernel_rfl) (by kernel_rfl) (by kernel_rfl) (by kernel_rfl) (y_extract rfl rfl) (fun _ _ => rfl) (Ent.sep enn) ?_
      refine Hd.takeH 12 rfl (by kernel_rfl) (by kernel_rfl) (by kernel_rfl) (by kernel_rfl) (y_extract rfl rfl) (fun _ _ => rfl) (Ent.sep enn) ?_
      refine Hd.takeH 13 rfl (by kernel_rfl) (by kernel_rfl) (by kernel_rfl) (by kernel_rfl) (y_extract rfl rfl) (fun _ _ => rfl) (Ent.sep enn) ?_
      refine Hd.takeH 14 rfl (by kernel_rfl) (by kernel_rfl) (by kernel_rfl) (by kernel_rfl) (y_assign rfl) (fun _ _ => rfl) (Ent.sep enn) ?_
      refine Hd.takeH 15 rfl (by kernel_rfl) (by kernel_rfl) (by kernel_rfl) (by kernel_rfl) (y_assign rfl) (fun _ _ => rfl) (Ent.sep enn) ?_
      refine Hd.takeH 16 rfl (by kernel_rfl) (by kernel_rfl) (by kernel_rfl) (by kernel_rfl) (y_assign rfl) (fun _ _ => rfl) (Ent.sep enn) ?_
      refine Hd.endH (by kernel_rfl) ?_
      refine Hd.slots [(0, _), (1, _), (3, _), (8, _), (10, _), (11, _), (12, _)] ⟨rfl, rfl, rfl, rfl, rfl, rfl, rfl, trivial⟩ ?_
      refine Hd.toK hK6 ?_
      refine Hd.block ?_
      refine Hd.seq (fun K7 hK7 => ?_)
      refine Hd.region ?_
      refine Hd.yv (y_move rfl) ?_
      refine Hd.yv (y_assign rfl) ?_
      refine Hd.nil ?_
      refine Hd.slots [(0, _), (1, _), (3, _), (8, _), (10, _), (12, _), (81, _)] ⟨rfl, rfl, rfl, rfl, rfl, rfl, rfl, trivial⟩ ?_
      refine Hd.toK hK7 ?_
      refine Hd.cond rfl (fun hc2 => ?_) (fun hc2 => ?_)
      ·
        try simp only [decide_eq_true_eq, decide_eq_false_iff_not, Bool.and_eq_true, Bool.or_eq_true, Bool.and_eq_false_iff, Bool.or_eq_false_iff, Bool.not_eq_true', Bool.not_eq_false', Bool.not_eq_true, Bool.not_eq_false, Int.not_lt, Int.not_le, Decidable.not_not, ne_eq] at hc2
        refine Hd.region ?_
        refine Hd.yv (y_move rfl) ?_
        refine Hd.yv (y_move rfl) ?_
        refine Hd.callE rfl fk82 (stop_ct _ b 0 bt (x.s 0) t 17 0) (Ent.sep enn) ?_
        intro _
        refine Hd.nil ?_
        refine Hd.slots [] trivial ?_
        refine Hd.inB ?_
        clear hK1 hK2 hK4 hK5 hK6 hK7
        rw [show readS ⟨x, w, t⟩ now most = ⟨x.up 0 fun s => stopF s, w', stopT t 17 0⟩ from (hS (by omega)).trans (if_pos hc2)]
        exact Hd.end0 rfl () rfl (fun q s => buf_put (fd := x.fd) (x' := x.up 0 fun s => stopF s) (s0 := stopF (x.s 0)) (s1 := x.s 1) rfl rfl rfl q (Ent.sep enn q s))
      ·
        try simp only [decide_eq_true_eq, decide_eq_false_iff_not, Bool.and_eq_true, Bool.or_eq_true, Bool.and_eq_false_iff, Bool.or_eq_false_iff, Bool.not_eq_true', Bool.not_eq_false', Bool.not_eq_true, Bool.not_eq_false, Int.not_lt, Int.not_le, Decidable.not_not, ne_eq] at hc2
        refine Hd.seq (fun K8 hK8 => ?_)
        refine Hd.region ?_
        refine Hd.yv (y_move rfl) ?_
        first | (refine Hd.yv (y_eqlT rfl rfl) ?_) | (refine Hd.yv (y_eql rfl rfl) ?_)
        refine Hd.yv (y_assign rfl) ?_
        refine Hd.nil ?_
        refine Hd.slots [(0, _), (1, _), (3, _), (8, _), (10, _), (12, _), (86, _)] ⟨rfl, rfl, rfl, rfl, rfl, rfl, rfl, trivial⟩ ?_
        refine Hd.toK hK8 ?_
        refine Hd.cond rfl (fun hc3 => ?_) (fun hc3 => ?_)
        ·
          try simp only [decide_eq_true_eq, decide_eq_false_iff_not, Bool.and_eq_true, Bool.or_eq_true, Bool.and_eq_false_iff, Bool.or_eq_false_iff, Bool.not_eq_true', Bool.not_eq_false', Bool.not_eq_true, Bool.not_eq_false, Int.not_lt, Int.not_le, Decidable.not_not, ne_eq] at hc3
          refine Hd.skip ?_
          refine Hd.inB ?_
          clear hK1 hK2 hK4 hK5 hK6 hK7 hK8
          rw [show readS ⟨x, w, t⟩ now most = ⟨x, w', t⟩ from (hS (by omega)).trans <| (if_neg (by rw [hc2]; simp)).trans (if_pos hc3)]
          exact Hd.end0 rfl () rfl (fun q s => buf_close rfl rfl rfl q (Ent.sep enn q s))
        ·
          try simp only [decide_eq_true_eq, decide_eq_false_iff_not, Bool.and_eq_true, Bool.or_eq_true, Bool.and_eq_false_iff, Bool.or_eq_false_iff, Bool.not_eq_true', Bool.not_eq_false', Bool.not_eq_true, Bool.not_eq_false, Int.not_lt, Int.not_le, Decidable.not_not, ne_eq] at hc3
          refine Hd.seq (fun K9 hK9 => ?_)
          refine Hd.region ?_
          refine Hd.yv (y_move rfl) ?_
          refine Hd.yv (y_neq rfl rfl) ?_
          refine Hd.yv (y_assign rfl) ?_
          refine Hd.nil ?_
          refine Hd.slots [(0, _), (1, _), (3, _), (8, _), (10, _), (12, _), (89, _)] ⟨rfl, rfl, rfl, rfl, rfl, rfl, rfl, trivial⟩ ?_
          refine Hd.toK hK9 ?_
          refine Hd.cond rfl (fun hc4 => ?_) (fun hc4 => ?_)
          ·
            try simp only [decide_eq_true_eq, decide_eq_false_iff_not, Bool.and_eq_true, Bool.or_eq_true, Bool.and_eq_false_iff, Bool.or_eq_false_iff, Bool.not_eq_true', Bool.not_eq_false', Bool.not_eq_true, Bool.not_eq_false, Int.not_lt, Int.not_le, Decidable.not_not, ne_eq] at hc4
            refine Hd.region ?_
            refine Hd.yv (y_move rfl) ?_
            refine Hd.yv (y_move rfl) ?_
            refine Hd.yv (y_move rfl) ?_
            refine Hd.callE rfl fk82 (stop_ct _ b 0 bt (x.s 0) t 33 ec) (Ent.sep enn) ?_
            intro _
            refine Hd.nil ?_
            refine Hd.slots [] trivial ?_
            refine Hd.inB ?_
            clear hK1 hK2 hK4 hK5 hK6 hK7 hK8 hK9
            rw [show readS ⟨x, w, t⟩ now most = ⟨x.up 0 fun s => stopF s, w', stopT t 33 ec⟩ from (hS (by omega)).trans <| (if_neg (by rw [hc2]; simp)).trans ((if_neg hc3).trans (if_pos hc4))]
            exact Hd.end0 rfl () rfl (fun q s => buf_put (fd := x.fd) (x' := x.up 0 fun s => stopF s) (s0 := stopF (x.s 0)) (s1 := x.s 1) rfl rfl rfl q (Ent.sep enn q s))
          ·
            try simp only [decide_eq_true_eq, decide_eq_false_iff_not, Bool.and_eq_true, Bool.or_eq_true, Bool.and_eq_false_iff, Bool.or_eq_false_iff, Bool.not_eq_true', Bool.not_eq_false', Bool.not_eq_true, Bool.not_eq_false, Int.not_lt, Int.not_le, Decidable.not_not, ne_eq] at hc4
            refine Hd.seq (fun K10 hK10 => ?_)
            refine Hd.ownCap pkk (fun hmc => ?_)
            refine Hd.region ?_
            refine Hd.yv (y_move rfl) ?_
            refine Hd.yv (y_nilp rfl) ?_
            first | (refine Hd.yv (y_field' (q := 0) (ft := 99) Tryd.underlying101 rfl sz99 rfl rfl) ?_) | (refine Hd.yv (y_fieldR (q := 0) (ft := 99) Tryd.underlying101 rfl sz99 rfl rfl) ?_)
            refine Hd.yv (y_move rfl) ?_
            refine Hd.callE rfl fk51 (chAdd _ b (2 + 0 * 8 + 0) (x.s 0).c ad bs.length c bs rfl ?hA hmc (by omega)) (Ent.sep enn) ?_
            case hA => exact RdS.own (ad := ad) pkk
            intro _
            refine Hd.nil ?_
            refine Hd.slots [(0, _), (1, _), (3, _), (8, _), (10, _)] ⟨rfl, rfl, rfl, rfl, rfl, trivial⟩ ?_
            refine Hd.toK hK10 ?_
            refine Hd.seq (fun K11 hK11 => ?_)
            refine Hd.region ?_
            refine Hd.yv (y_move rfl) ?_
            refine Hd.yv (y_move rfl) ?_
            refine Hd.yv (y_len Tryd.underlying35 rfl) ?_
            refine Hd.yv (y_nilp rfl) ?_
            first | (refine Hd.yv (y_field' (q := 4) (ft := 3) Tryd.underlying37 rfl sz3 rfl rfl) ?_) | (refine Hd.yv (y_fieldR (q := 4) (ft := 3) Tryd.underlying37 rfl sz3 rfl rfl) ?_)
            first | (refine Hd.store1 sz3 rfl rfl rfl pkk (by first | decide | (simp; done) | (simp; omega)) ?_) | (refine Hd.storeG1 sz3 rfl rfl rfl pkk (by first | decide | (simp; done) | (simp; omega)) ?_) | (refine Hd.storeO1 sz3 rfl rfl rfl pkk (by first | omega | (simp; done) | (simp; omega)) ?_) | (refine Hd.storeK1 sz3 rfl rfl rfl pkk (by decide) (by first | decide | (simp; done) | (simp; omega)) ?_)
            try simp only [List.set_cons_zero, List.set_cons_succ]
            refine Hd.nil ?_
            refine Hd.slots [(0, _), (1, _), (3, _), (8, _)] ⟨rfl, rfl, rfl, rfl, trivial⟩ ?_
            refine Hd.toK hK11 ?_
            refine Hd.seq (fun K12 hK12 => ?_)
            refine Hd.drawsH ([segK b (2 + 0 * 8) 2 (encS (x.s 0))]) (fun j => !(([1000] : List Nat).contains j)) mixed ?_
            simp only [List.length, Nat.zero_add, Nat.reduceAdd]
            refine Hd.takeH 0 rfl (by kernel_rfl) (by kernel_rfl) (by kernel_rfl) (by kernel_rfl) (y_move rfl) (fun _ _ => rfl) (Ent.sep enn) ?_
            refine Hd.takeH 1 rfl (by kernel_rfl) (by kernel_rfl) (by kernel_rfl) (by kernel_rfl) (y_move rfl) (fun _ _ => rfl) (Ent.sep enn) ?_
            refine Hd.takeH 2 rfl (by kernel_rfl) (by kernel_rfl) (by kernel_rfl) (by kernel_rfl) (y_nilp rfl) (fun _ _ => rfl) (Ent.sep enn) ?_
            first | (refine Hd.takeH 3 rfl (by kernel_rfl) (by kernel_rfl) (by kernel_rfl) (by kernel_rfl) (y_field' (q := 0) (ft := 99) Tryd.underlying101 rfl sz99 rfl rfl) (fun _ _ => rfl) (Ent.sep enn) ?_) | (refine Hd.takeH 3 rfl (by kernel_rfl) (by kernel_rfl) (by kernel_rfl) (by kernel_rfl) (y_fieldR (q := 0) (ft := 99) Tryd.underlying101 rfl sz99 rfl rfl) (fun _ _ => rfl) (Ent.sep enn) ?_)
            refine Hd.takeH 5 rfl (by kernel_rfl) (by kernel_rfl) (by kernel_rfl) (by kernel_rfl) (y_move rfl) (fun _ _ => rfl) (Ent.sep enn) ?_
            refine Hd.takeH 6 rfl (by kernel_rfl) (by kernel_rfl) (by kernel_rfl) (by kernel_rfl) (y_nilp rfl) (fun _ _ => rfl) (Ent.sep enn) ?_
            first | (refine Hd.takeH 7 rfl (by kernel_rfl) (by kernel_rfl) (by kernel_rfl) (by kernel_rfl) (y_field' (q := 4) (ft := 3) Tryd.underlying101 rfl sz3 rfl rfl) (fun _ _ => rfl) (Ent.sep enn) ?_) | (refine Hd.takeH 7 rfl (by kernel_rfl) (by kernel_rfl) (by kernel_rfl) (by kernel_rfl) (y_fieldR (q := 4) (ft := 3) Tryd.underlying101 rfl sz3 rfl rfl) (fun _ _ => rfl) (Ent.sep enn) ?_)
            first | (refine Hd.takeH 8 rfl (by kernel_rfl) (by kernel_rfl) (by kernel_rfl) (by kernel_rfl) (y_load1 ag3 rfl (Rd.pt1 pkk (by (first | rfl)))) (fun _ _ => rfl) (Ent.sep enn) ?_) | (refine Hd.takeH 8 rfl (by kernel_rfl) (by kernel_rfl) (by kernel_rfl) (by kernel_rfl) (y_load1 ag3 rfl (Rd.seg1 pkk (by (first | rfl)))) (fun _ _ => rfl) (Ent.sep enn) ?_) | (refine Hd.takeH 8 rfl (by kernel_rfl) (by kernel_rfl) (by kernel_rfl) (by kernel_rfl) (y_load1 ag3 rfl (Rd.segK1 pkk (by decide) (by (first | rfl)))) (fun _ _ => rfl) (Ent.sep enn) ?_) | (refine Hd.takeH 8 rfl (by kernel_rfl) (by kernel_rfl) (by kernel_rfl) (by kernel_rfl) (y_loadR1 ag3 rfl (by (first | exact RdS.own pkk)) (by (first | rfl))) (fun _ _ => rfl) (Ent.sep enn) ?_)
            refine Hd.onlyH 4 rfl (by kernel_rfl) ?_
            refine Hd.callE rfl fk53 (chLen _ b (2 + 0 * 8 + 0) (addA (x.s 0).c bs)) (Ent.sep enn) ?_
            intro _
            refine Hd.nil ?_
            refine Hd.thenN ?_
            refine Hd.heldK (J := (fun j => !(([1000] : List Nat).contains j))) (i := 4) (Ent.sep enn) ?_
            refine Hd.takeH 9 rfl (by kernel_rfl) (by kernel_rfl) (by kernel_rfl) (by kernel_rfl) (y_geq rfl rfl) (fun _ _ => rfl) (Ent.sep enn) ?_
            refine Hd.takeH 10 rfl (by kernel_rfl) (by kernel_rfl) (by kernel_rfl) (by kernel_rfl) (y_nilp rfl) (fun _ _ => rfl) (Ent.sep enn) ?_
            first | (refine Hd.takeH 11 rfl (by kernel_rfl) (by kernel_rfl) (by kernel_rfl) (by kernel_rfl) (y_field' (q := 0) (ft := 4) Tryd.underlying37 rfl sz4 rfl rfl) (fun _ _ => rfl) (Ent.sep enn) ?_) | (refine Hd.takeH 11 rfl (by kernel_rfl) (by kernel_rfl) (by kernel_rfl) (by kernel_rfl) (y_fieldR (q := 0) (ft := 4) Tryd.underlying37 rfl sz4 rfl rfl) (fun _ _ => rfl) (Ent.sep enn) ?_)
            refine Hd.onlyH 12 rfl (by kernel_rfl) ?_
            first | (refine Hd.store1 sz4 rfl rfl rfl pkk (by first | decide | (simp; done) | (simp; omega)) ?_) | (refine Hd.storeG1 sz4 rfl rfl rfl pkk (by first | decide | (simp; done) | (simp; omega)) ?_) | (refine Hd.storeO1 sz4 rfl rfl rfl pkk (by first | omega | (simp; done) | (simp; omega)) ?_) | (refine Hd.storeK1 sz4 rfl rfl rfl pkk (by decide) (by first | decide | (simp; done) | (simp; omega)) ?_)
            try simp only [List.set_cons_zero, List.set_cons_succ]
            refine Hd.nil ?_
            refine Hd.thenN ?_
            refine Hd.heldK (J := (fun j => !(([1000] : List Nat).contains j))) (i := 12) (Ent.sep enn) ?_
            refine Hd.endH (by kernel_rfl) ?_
            refine Hd.slots [(0, _), (1, _)] ⟨rfl, rfl, trivial⟩ ?_
            refine Hd.toK hK12 ?_
            refine Hd.region ?_
            refine Hd.yv (y_move rfl) ?_
            refine Hd.yv (y_move rfl) ?_
            refine Hd.callE rfl fk50 (set_ct _ b 0 (by omega) { x.s 0 with c := addA (x.s 0).c bs } now hn (ht 0 (by omega)).1) (Ent.sep enn) ?_
            intro _
            refine Hd.nil ?_
            refine Hd.slots [] trivial ?_
            refine Hd.inB ?_
            clear hK1 hK2 hK4 hK5 hK6 hK7 hK8 hK9 hK10 hK11 hK12
            rw [show readS ⟨x, w, t⟩ now most = ⟨x.up 0 (getF now bs), w', { t with i := (bs.length : Int), r := decide (((addA (x.s 0).c bs).length : Int) ≥ (x.s 0).low) }⟩ from (hS (by omega)).trans <| (if_neg (by rw [hc2]; simp)).trans ((if_neg hc3).trans (if_neg (by simpa using hc4)))]
            exact Hd.end0 rfl () rfl (fun q s => buf_put (fd := x.fd) (x' := x.up 0 (getF now bs)) (s0 := setA 0 now { x.s 0 with c := addA (x.s 0).c bs }) (s1 := x.s 1) rfl rfl rfl q (Ent.sep (.pick pkk (.pick pkk (.pick pkk (.pick pkk (.pick pkk (.pick pkk (.pick pkk (.eq pkk (pt_eq (by rfl)) enn)))))))) q s))
end Bu
end Go.Proofs.YtmpemhbfgbochaaDoor
namespace Go.Proofs.YtmpemhbfgbochaaDoor
set_option linter.unusedSimpArgs false
set_option linter.unusedVariables false
set_option linter.unnecessarySimpa false
open Go.RX Fx
namespace Bu
open Wo
set_option maxRecDepth 8000
def offA (s : SdA) (much : Int) : List UInt8 := Bc.cpy s.c 0 (min much 4096)
abbrev putF (now n : Int) (s : SdA) : SdA := setA 1 now { s with c := s.c.drop n.toNat }
def wrP (σ : StA) (now : Int) (r : (Int × Int) × WA) : StA :=
  if r.1.2 = 0 then ⟨σ.x.up 1 (putF now r.1.1), r.2, { σ.t with o := r.1.1, w := decide (((((σ.x.s 1).c.drop r.1.1.toNat).length : Nat) : Int) ≤ (σ.x.s 1).low) }⟩
  else if r.1.2 = 113 then ⟨σ.x, r.2, σ.t⟩
  else ⟨σ.x.up 1 fun s => stopF s, r.2, stopT σ.t 34 r.1.2⟩
def writeS (σ : StA) (now much : Int) : StA := if (offA (σ.x.s 1) much).length = 0 then σ else wrP σ now (writeR σ.w σ.x.fd (offA (σ.x.s 1) much))
theorem writeR_le (w : WA) (fd : Int) (bs : List UInt8) : (writeR w fd bs).1.1 ≤ (bs.length : Int) := by
  unfold writeR
  repeat' split
  all_goals first
    | (dsimp only; omega)
    | (dsimp only; unfold putN; omega)
set_option maxHeartbeats 2000000 in
theorem write_ct (L : List SP) (b wb bt : Nat) (x : BfA) (w : WA) (t : ToA) (ht : TmOk x) (now much : Int) (hn : InK .u64 now) (hm : InK .i64 much) : Ct Tryd.prog 56 #[.pointer (some ⟨b, 0, none⟩), .int .u64 now, .int .i64 much, .pointer (some ⟨bt, 0, none⟩)] (BufP b wb x :: WorldP wb w :: ToP bt t :: L) (fun _ : Unit => .tuple #[]) (fun _ : Unit => BufP b wb (writeS ⟨x, w, t⟩ now much).x :: WorldP wb (writeS ⟨x, w, t⟩ now much).w :: ToP bt (writeS ⟨x, w, t⟩ now much).t :: L) := by
  refine Ct.of (vs := [.pointer (some ⟨b, 0, none⟩), .int .u64 now, .int .i64 much, .pointer (some ⟨bt, 0, none⟩)]) Tryd.func56 rfl rfl [(0, .pointer (some ⟨b, 0, none⟩)), (1, .int .u64 now), (2, .int .i64 much), (3, .pointer (some ⟨bt, 0, none⟩))] (by repeat (first | exact trivial | refine ⟨rfl, ?_⟩)) ?_
  intro E
  show Hd E 71 _ _ _ _
  simp only [InK] at hm
  refine Hd.bufK .here 1 (by omega) ?_
  refine Hd.chB (b := b) (o := 2 + 1 * 8 + 0) pkk (fun hcl => ?_)
  have hol : (offA (x.s 1) much).length ≤ 4096 := by
    unfold offA Bc.cpy
    split
    · simp
    · rw [List.length_take]; omega
  have hS : ¬ (offA (x.s 1) much).length = 0 → writeS ⟨x, w, t⟩ now much = wrP ⟨x, w, t⟩ now (writeR w x.fd (offA (x.s 1) much)) := fun h => if_neg h
  have hle := writeR_le w x.fd (offA (x.s 1) much)
  obtain ⟨⟨⟨n, ec⟩, w'⟩, hrr⟩ : ∃ rr, writeR w x.fd (offA (x.s 1) much) = rr := ⟨_, rfl⟩
  rw [hrr] at hS hle
  dsimp only at hle
  obtain ⟨bs, hbs⟩ : ∃ bs, offA (x.s 1) much = bs := ⟨_, rfl⟩
  rw [hbs] at hS hle hol hrr
  refine Hd.seq (fun K1 hK1 => ?_)
  refine Hd.region ?_
  refine Hd.yv (y_move rfl) ?_
  refine Hd.yv (y_nilp rfl) ?_
  first | (refine Hd.yv (y_field' (q := 2) (ft := 102) Tryd.underlying104 rfl sz102 rfl rfl) ?_) | (refine Hd.yv (y_fieldR (q := 2) (ft := 102) Tryd.underlying104 rfl sz102 rfl rfl) ?_)
  refine Hd.yv (y_idxA Tryd.underlying102 sz101 rfl rfl (by first | omega | decide)) ?_
  refine Hd.yv (y_assign rfl) ?_
  refine Hd.nil ?_
  refine Hd.slots [(0, _), (1, _), (2, _), (3, _), (8, _)] ⟨rfl, rfl, rfl, rfl, rfl, trivial⟩ ?_
  refine Hd.toK hK1 ?_
  refine Hd.seq (fun K2 hK2 => ?_)
  refine Hd.region ?_
  refine Hd.yv (y_move rfl) ?_
  refine Hd.yv (y_nilp rfl) ?_
  first | (refine Hd.yv (y_field' (q := 0) (ft := 99) Tryd.underlying101 rfl sz99 rfl rfl) ?_) | (refine Hd.yv (y_fieldR (q := 0) (ft := 99) Tryd.underlying101 rfl sz99 rfl rfl) ?_)
  refine Hd.yv (y_move rfl) ?_
  refine Hd.yv (y_min rfl rfl) ?_
  refine Hd.callE rfl fk83 (chCopy _ b (2 + 1 * 8 + 0) (x.s 1).c 0 (min much 4096) (by simp [InK]) (by simp only [InK]; omega)) (Ent.sep enn) ?_
  rintro ⟨ad, c⟩
  dsimp only
  rw [show Bc.cpy (x.s 1).c 0 (min much 4096) = bs from hbs]
  refine Hd.yv (y_assign rfl) ?_
  refine Hd.nil ?_
  refine Hd.slots [(0, _), (1, _), (3, _), (8, _), (9, _)] ⟨rfl, rfl, rfl, rfl, rfl, trivial⟩ ?_
  refine Hd.toK hK2 ?_
  refine Hd.seq (fun K3 hK3 => ?_)
  refine Hd.seq (fun K4 hK4 => ?_)
  refine Hd.region ?_
  refine Hd.yv (y_move rfl) ?_
  refine Hd.yv (y_len Tryd.underlying35 rfl) ?_
  first | (refine Hd.yv (y_eqlT rfl rfl) ?_) | (refine Hd.yv (y_eql rfl rfl) ?_)
  refine Hd.nil ?_
  refine Hd.slots [(0, _), (1, _), (3, _), (8, _), (9, _), (24, _)] ⟨rfl, rfl, rfl, rfl, rfl, rfl, trivial⟩ ?_
  refine Hd.toK hK4 ?_
  refine Hd.cond rfl (fun hc0 => ?_) (fun hc0 => ?_)
  ·
    try simp only [decide_eq_true_eq, decide_eq_false_iff_not, Bool.and_eq_true, Bool.or_eq_true, Bool.and_eq_false_iff, Bool.or_eq_false_iff, Bool.not_eq_true', Bool.not_eq_false', Bool.not_eq_true, Bool.not_eq_false, Int.not_lt, Int.not_le, Decidable.not_not, ne_eq] at hc0
    refine Hd.ret ?_
    refine Hd.thenRet ?_
    clear hK1 hK2 hK3 hK4
    rw [show writeS ⟨x, w, t⟩ now much = ⟨x, w, t⟩ from if_pos (by show (offA (x.s 1) much).length = 0; rw [hbs]; omega)]
    exact Hd.ret0 rfl () rfl (fun q s => buf_backK (k := 1) (by omega) q (Ent.sep enn q s))
  ·
    try simp only [decide_eq_true_eq, decide_eq_false_iff_not, Bool.and_eq_true, Bool.or_eq_true, Bool.and_eq_false_iff, Bool.or_eq_false_iff, Bool.not_eq_true', Bool.not_eq_false', Bool.not_eq_true, Bool.not_eq_false, Int.not_lt, Int.not_le, Decidable.not_not, ne_eq] at hc0
    refine Hd.skip ?_
    refine Hd.toK hK3 ?_
    refine Hd.seq (fun K5 hK5 => ?_)
    refine Hd.ownCap pkk (fun hmc => ?_)
    refine Hd.drawsH ([BfH b wb x.fd]) (fun _ => true) mixed ?_
    simp only [List.length, Nat.zero_add, Nat.reduceAdd]
    refine Hd.takeH 0 rfl (by kernel_rfl) (by kernel_rfl) (by kernel_rfl) (by kernel_rfl) (y_move rfl) (fun _ _ => rfl) (Ent.sep enn) ?_
    refine Hd.takeH 1 rfl (by kernel_rfl) (by kernel_rfl) (by kernel_rfl) (by kernel_rfl) (y_nilp rfl) (fun _ _ => rfl) (Ent.sep enn) ?_
    first | (refine Hd.takeH 2 rfl (by kernel_rfl) (by kernel_rfl) (by kernel_rfl) (by kernel_rfl) (y_field' (q := 0) (ft := 27) Tryd.underlying104 rfl sz27 rfl rfl) (fun _ _ => rfl) (Ent.sep enn) ?_) | (refine Hd.takeH 2 rfl (by kernel_rfl) (by kernel_rfl) (by kernel_rfl) (by kernel_rfl) (y_fieldR (q := 0) (ft := 27) Tryd.underlying104 rfl sz27 rfl rfl) (fun _ _ => rfl) (Ent.sep enn) ?_)
    first | (refine Hd.takeH 3 rfl (by kernel_rfl) (by kernel_rfl) (by kernel_rfl) (by kernel_rfl) (y_load1 ag27 rfl (Rd.pt1 pkk (by (first | rfl)))) (fun _ _ => rfl) (Ent.sep enn) ?_) | (refine Hd.takeH 3 rfl (by kernel_rfl) (by kernel_rfl) (by kernel_rfl) (by kernel_rfl) (y_load1 ag27 rfl (Rd.seg1 pkk (by (first | rfl)))) (fun _ _ => rfl) (Ent.sep enn) ?_) | (refine Hd.takeH 3 rfl (by kernel_rfl) (by kernel_rfl) (by kernel_rfl) (by kernel_rfl) (y_load1 ag27 rfl (Rd.segK1 pkk (by decide) (by (first | rfl)))) (fun _ _ => rfl) (Ent.sep enn) ?_) | (refine Hd.takeH 3 rfl (by kernel_rfl) (by kernel_rfl) (by kernel_rfl) (by kernel_rfl) (y_loadR1 ag27 rfl (by (first | exact RdS.own pkk)) (by (first | rfl))) (fun _ _ => rfl) (Ent.sep enn) ?_)
    refine Hd.takeH 4 rfl (by kernel_rfl) (by kernel_rfl) (by kernel_rfl) (by kernel_rfl) (y_move rfl) (fun _ _ => rfl) (Ent.sep enn) ?_
    refine Hd.takeH 5 rfl (by kernel_rfl) (by kernel_rfl) (by kernel_rfl) (by kernel_rfl) (y_nilp rfl) (fun _ _ => rfl) (Ent.sep enn) ?_
    first | (refine Hd.takeH 6 rfl (by kernel_rfl) (by kernel_rfl) (by kernel_rfl) (by kernel_rfl) (y_field' (q := 1) (ft := 3) Tryd.underlying104 rfl sz3 rfl rfl) (fun _ _ => rfl) (Ent.sep enn) ?_) | (refine Hd.takeH 6 rfl (by kernel_rfl) (by kernel_rfl) (by kernel_rfl) (by kernel_rfl) (y_fieldR (q := 1) (ft := 3) Tryd.underlying104 rfl sz3 rfl rfl) (fun _ _ => rfl) (Ent.sep enn) ?_)
    first | (refine Hd.takeH 7 rfl (by kernel_rfl) (by kernel_rfl) (by kernel_rfl) (by kernel_rfl) (y_load1 ag3 rfl (Rd.pt1 pkk (by (first | rfl)))) (fun _ _ => rfl) (Ent.sep enn) ?_) | (refine Hd.takeH 7 rfl (by kernel_rfl) (by kernel_rfl) (by kernel_rfl) (by kernel_rfl) (y_load1 ag3 rfl (Rd.seg1 pkk (by (first | rfl)))) (fun _ _ => rfl) (Ent.sep enn) ?_) | (refine Hd.takeH 7 rfl (by kernel_rfl) (by kernel_rfl) (by kernel_rfl) (by kernel_rfl) (y_load1 ag3 rfl (Rd.segK1 pkk (by decide) (by (first | rfl)))) (fun _ _ => rfl) (Ent.sep enn) ?_) | (refine Hd.takeH 7 rfl (by kernel_rfl) (by kernel_rfl) (by kernel_rfl) (by kernel_rfl) (y_loadR1 ag3 rfl (by (first | exact RdS.own pkk)) (by (first | rfl))) (fun _ _ => rfl) (Ent.sep enn) ?_)
    refine Hd.takeH 8 rfl (by kernel_rfl) (by kernel_rfl) (by kernel_rfl) (by kernel_rfl) (y_move rfl) (fun _ _ => rfl) (Ent.sep enn) ?_
    refine Hd.onlyH 9 rfl (by kernel_rfl) ?_
    refine Hd.callE rfl fk10 (wwrite_ct _ wb w x.fd ad bs.length c bs rfl ?hA (by omega) hmc) (Ent.sep enn) ?_
    case hA => exact RdS.own (ad := ad) pkk
    intro _
    rw [hrr]
    dsimp only
    refine Hd.nil ?_
    refine Hd.thenN ?_
    refine Hd.heldK (J := (fun _ => true)) (i := 9) (Ent.sep enn) ?_
    refine Hd.takeH 10 rfl (by kernel_rfl) (by kernel_rfl) (by kernel_rfl) (by kernel_rfl) (y_move rfl) (fun _ _ => rfl) (Ent.sep enn) ?_
    refine Hd.takeH 11 rfl (by kernel_rfl) (by kernel_rfl) (by kernel_rfl) (by kernel_rfl) (y_extract rfl rfl) (fun _ _ => rfl) (Ent.sep enn) ?_
    refine Hd.takeH 12 rfl (by kernel_rfl) (by kernel_rfl) (by kernel_rfl) (by kernel_rfl) (y_extract rfl rfl) (fun _ _ => rfl) (Ent.sep enn) ?_
    refine Hd.takeH 13 rfl (by kernel_rfl) (by kernel_rfl) (by kernel_rfl) (by kernel_rfl) (y_assign rfl) (fun _ _ => rfl) (Ent.sep enn) ?_
    refine Hd.takeH 14 rfl (by kernel_rfl) (by kernel_rfl) (by kernel_rfl) (by kernel_rfl) (y_assign rfl) (fun _ _ => rfl) (Ent.sep enn) ?_
    refine Hd.endH (by kernel_rfl) ?_
    refine Hd.slots [(0, _), (1, _), (3, _), (8, _), (10, _), (11, _)] ⟨rfl, rfl, rfl, rfl, rfl, rfl, trivial⟩ ?_
    refine Hd.toK hK5 ?_
    refine Hd.seq (fun K6 hK6 => ?_)
    refine Hd.region ?_
    refine Hd.yv (y_move rfl) ?_
    refine Hd.nil ?_
    refine Hd.slots [(0, _), (1, _), (3, _), (8, _), (10, _), (11, _), (38, _)] ⟨rfl, rfl, rfl, rfl, rfl, rfl, rfl, trivial⟩ ?_
    refine Hd.toK hK6 ?_
    refine Hd.block ?_
    refine Hd.seq (fun K7 hK7 => ?_)
    refine Hd.region ?_
    first | (refine Hd.yv (y_eqlT rfl rfl) ?_) | (refine Hd.yv (y_eql rfl rfl) ?_)
    refine Hd.yv (y_assign rfl) ?_
    refine Hd.nil ?_
    refine Hd.slots [(0, _), (1, _), (3, _), (8, _), (10, _), (11, _), (38, _), (43, _)] ⟨rfl, rfl, rfl, rfl, rfl, rfl, rfl, rfl, trivial⟩ ?_
    refine Hd.toK hK7 ?_
    refine Hd.cond rfl (fun hc1 => ?_) (fun hc1 => ?_)
    ·
      try simp only [decide_eq_true_eq, decide_eq_false_iff_not, Bool.and_eq_true, Bool.or_eq_true, Bool.and_eq_false_iff, Bool.or_eq_false_iff, Bool.not_eq_true', Bool.not_eq_false', Bool.not_eq_true, Bool.not_eq_false, Int.not_lt, Int.not_le, Decidable.not_not, ne_eq] at hc1
      refine Hd.seq (fun K8 hK8 => ?_)
      refine Hd.region ?_
      refine Hd.yv (y_move rfl) ?_
      refine Hd.yv (y_nilp rfl) ?_
      first | (refine Hd.yv (y_field' (q := 0) (ft := 99) Tryd.underlying101 rfl sz99 rfl rfl) ?_) | (refine Hd.yv (y_fieldR (q := 0) (ft := 99) Tryd.underlying101 rfl sz99 rfl rfl) ?_)
      refine Hd.yv (y_move rfl) ?_
      refine Hd.callE rfl fk84 (chDrain _ b (2 + 1 * 8 + 0) (x.s 1).c n (by omega)) (Ent.sep enn) ?_
      intro _
      refine Hd.nil ?_
      refine Hd.slots [(0, _), (1, _), (3, _), (8, _), (10, _)] ⟨rfl, rfl, rfl, rfl, rfl, trivial⟩ ?_
      refine Hd.toK hK8 ?_
      refine Hd.seq (fun K9 hK9 => ?_)
      refine Hd.region ?_
      refine Hd.yv (y_move rfl) ?_
      refine Hd.yv (y_move rfl) ?_
      refine Hd.yv (y_nilp rfl) ?_
      first | (refine Hd.yv (y_field' (q := 5) (ft := 3) Tryd.underlying37 rfl sz3 rfl rfl) ?_) | (refine Hd.yv (y_fieldR (q := 5) (ft := 3) Tryd.underlying37 rfl sz3 rfl rfl) ?_)
      first | (refine Hd.store1 sz3 rfl rfl rfl pkk (by first | decide | (simp; done) | (simp; omega)) ?_) | (refine Hd.storeG1 sz3 rfl rfl rfl pkk (by first | decide | (simp; done) | (simp; omega)) ?_) | (refine Hd.storeO1 sz3 rfl rfl rfl pkk (by first | omega | (simp; done) | (simp; omega)) ?_) | (refine Hd.storeK1 sz3 rfl rfl rfl pkk (by decide) (by first | decide | (simp; done) | (simp; omega)) ?_)
      try simp only [List.set_cons_zero, List.set_cons_succ]
      refine Hd.nil ?_
      refine Hd.slots [(0, _), (1, _), (3, _), (8, _)] ⟨rfl, rfl, rfl, rfl, trivial⟩ ?_
      refine Hd.toK hK9 ?_
      refine Hd.seq (fun K10 hK10 => ?_)
      refine Hd.drawsH ([segK b (2 + 1 * 8) 2 (encS (x.s 1))]) (fun j => !(([1000] : List Nat).contains j)) mixed ?_
      simp only [List.length, Nat.zero_add, Nat.reduceAdd]
      refine Hd.takeH 0 rfl (by kernel_rfl) (by kernel_rfl) (by kernel_rfl) (by kernel_rfl) (y_move rfl) (fun _ _ => rfl) (Ent.sep enn) ?_
      refine Hd.takeH 1 rfl (by kernel_rfl) (by kernel_rfl) (by kernel_rfl) (by kernel_rfl) (y_move rfl) (fun _ _ => rfl) (Ent.sep enn) ?_
      refine Hd.takeH 2 rfl (by kernel_rfl) (by kernel_rfl) (by kernel_rfl) (by kernel_rfl) (y_nilp rfl) (fun _ _ => rfl) (Ent.sep enn) ?_
      first | (refine Hd.takeH 3 rfl (by kernel_rfl) (by kernel_rfl) (by kernel_rfl) (by kernel_rfl) (y_field' (q := 0) (ft := 99) Tryd.underlying101 rfl sz99 rfl rfl) (fun _ _ => rfl) (Ent.sep enn) ?_) | (refine Hd.takeH 3 rfl (by kernel_rfl) (by kernel_rfl) (by kernel_rfl) (by kernel_rfl) (y_fieldR (q := 0) (ft := 99) Tryd.underlying101 rfl sz99 rfl rfl) (fun _ _ => rfl) (Ent.sep enn) ?_)
      refine Hd.takeH 5 rfl (by kernel_rfl) (by kernel_rfl) (by kernel_rfl) (by kernel_rfl) (y_move rfl) (fun _ _ => rfl) (Ent.sep enn) ?_
      refine Hd.takeH 6 rfl (by kernel_rfl) (by kernel_rfl) (by kernel_rfl) (by kernel_rfl) (y_nilp rfl) (fun _ _ => rfl) (Ent.sep enn) ?_
      first | (refine Hd.takeH 7 rfl (by kernel_rfl) (by kernel_rfl) (by kernel_rfl) (by kernel_rfl) (y_field' (q := 4) (ft := 3) Tryd.underlying101 rfl sz3 rfl rfl) (fun _ _ => rfl) (Ent.sep enn) ?_) | (refine Hd.takeH 7 rfl (by kernel_rfl) (by kernel_rfl) (by kernel_rfl) (by kernel_rfl) (y_fieldR (q := 4) (ft := 3) Tryd.underlying101 rfl sz3 rfl rfl) (fun _ _ => rfl) (Ent.sep enn) ?_)
      first | (refine Hd.takeH 8 rfl (by kernel_rfl) (by kernel_rfl) (by kernel_rfl) (by kernel_rfl) (y_load1 ag3 rfl (Rd.pt1 pkk (by (first | rfl)))) (fun _ _ => rfl) (Ent.sep enn) ?_) | (refine Hd.takeH 8 rfl (by kernel_rfl) (by kernel_rfl) (by kernel_rfl) (by kernel_rfl) (y_load1 ag3 rfl (Rd.seg1 pkk (by (first | rfl)))) (fun _ _ => rfl) (Ent.sep enn) ?_) | (refine Hd.takeH 8 rfl (by kernel_rfl) (by kernel_rfl) (by kernel_rfl) (by kernel_rfl) (y_load1 ag3 rfl (Rd.segK1 pkk (by decide) (by (first | rfl)))) (fun _ _ => rfl) (Ent.sep enn) ?_) | (refine Hd.takeH 8 rfl (by kernel_rfl) (by kernel_rfl) (by kernel_rfl) (by kernel_rfl) (y_loadR1 ag3 rfl (by (first | exact RdS.own pkk)) (by (first | rfl))) (fun _ _ => rfl) (Ent.sep enn) ?_)
      refine Hd.onlyH 4 rfl (by kernel_rfl) ?_
      refine Hd.callE rfl fk53 (chLen _ b (2 + 1 * 8 + 0) ((x.s 1).c.drop n.toNat)) (Ent.sep enn) ?_
      intro _
      refine Hd.nil ?_
      refine Hd.thenN ?_
      refine Hd.heldK (J := (fun j => !(([1000] : List Nat).contains j))) (i := 4) (Ent.sep enn) ?_
      refine Hd.takeH 9 rfl (by kernel_rfl) (by kernel_rfl) (by kernel_rfl) (by kernel_rfl) (y_leq rfl rfl) (fun _ _ => rfl) (Ent.sep enn) ?_
      refine Hd.takeH 10 rfl (by kernel_rfl) (by kernel_rfl) (by kernel_rfl) (by kernel_rfl) (y_nilp rfl) (fun _ _ => rfl) (Ent.sep enn) ?_
      first | (refine Hd.takeH 11 rfl (by kernel_rfl) (by kernel_rfl) (by kernel_rfl) (by kernel_rfl) (y_field' (q := 1) (ft := 4) Tryd.underlying37 rfl sz4 rfl rfl) (fun _ _ => rfl) (Ent.sep enn) ?_) | (refine Hd.takeH 11 rfl (by kernel_rfl) (by kernel_rfl) (by kernel_rfl) (by kernel_rfl) (y_fieldR (q := 1) (ft := 4) Tryd.underlying37 rfl sz4 rfl rfl) (fun _ _ => rfl) (Ent.sep enn) ?_)
      refine Hd.onlyH 12 rfl (by kernel_rfl) ?_
      first | (refine Hd.store1 sz4 rfl rfl rfl pkk (by first | decide | (simp; done) | (simp; omega)) ?_) | (refine Hd.storeG1 sz4 rfl rfl rfl pkk (by first | decide | (simp; done) | (simp; omega)) ?_) | (refine Hd.storeO1 sz4 rfl rfl rfl pkk (by first | omega | (simp; done) | (simp; omega)) ?_) | (refine Hd.storeK1 sz4 rfl rfl rfl pkk (by decide) (by first | decide | (simp; done) | (simp; omega)) ?_)
      try simp only [List.set_cons_zero, List.set_cons_succ]
      refine Hd.nil ?_
      refine Hd.thenN ?_
      refine Hd.heldK (J := (fun j => !(([1000] : List Nat).contains j))) (i := 12) (Ent.sep enn) ?_
      refine Hd.endH (by kernel_rfl) ?_
      refine Hd.slots [(0, _), (1, _)] ⟨rfl, rfl, trivial⟩ ?_
      refine Hd.toK hK10 ?_
      refine Hd.region ?_
      refine Hd.yv (y_move rfl) ?_
      refine Hd.yv (y_move rfl) ?_
      refine Hd.callE rfl fk50 (set_ct _ b 1 (by omega) { x.s 1 with c := (x.s 1).c.drop n.toNat } now hn (ht 1 (by omega)).1) (Ent.sep enn) ?_
      intro _
      refine Hd.nil ?_
      refine Hd.slots [] trivial ?_
      refine Hd.inB ?_
      clear hK1 hK2 hK3 hK4 hK5 hK6 hK7 hK8 hK9 hK10
      have hne : ¬ bs.length = 0 := by omega
      rw [show writeS ⟨x, w, t⟩ now much = ⟨x.up 1 (putF now n), w', { t with o := n, w := decide (((((x.s 1).c.drop n.toNat).length : Nat) : Int) ≤ (x.s 1).low) }⟩ from (hS hne).trans (if_pos hc1)]
      refine Hd.end0 rfl () rfl (fun q s => buf_putK (k := 1) (x := x) (s' := putF now n (x.s 1)) (by omega) q ?_)
      rw [bfL_up (by omega)]
      exact Ent.sep (.pick pkk (.pick pkk (.pick pkk (.pick pkk (.pick pkk (.pick pkk (.pick pkk (.eq pkk (pt_eq (by rfl)) enn)))))))) q s
    ·
      try simp only [decide_eq_true_eq, decide_eq_false_iff_not, Bool.and_eq_true, Bool.or_eq_true, Bool.and_eq_false_iff, Bool.or_eq_false_iff, Bool.not_eq_true', Bool.not_eq_false', Bool.not_eq_true, Bool.not_eq_false, Int.not_lt, Int.not_le, Decidable.not_not, ne_eq] at hc1
      refine Hd.seq (fun K11 hK11 => ?_)
      refine Hd.region ?_
      first | (refine Hd.yv (y_eqlT rfl rfl) ?_) | (refine Hd.yv (y_eql rfl rfl) ?_)
      refine Hd.yv (y_assign rfl) ?_
      refine Hd.nil ?_
      refine Hd.slots [(3, _), (8, _), (11, _), (69, _)] ⟨rfl, rfl, rfl, rfl, trivial⟩ ?_
      refine Hd.toK hK11 ?_
      refine Hd.cond rfl (fun hc2 => ?_) (fun hc2 => ?_)
      ·
        try simp only [decide_eq_true_eq, decide_eq_false_iff_not, Bool.and_eq_true, Bool.or_eq_true, Bool.and_eq_false_iff, Bool.or_eq_false_iff, Bool.not_eq_true', Bool.not_eq_false', Bool.not_eq_true, Bool.not_eq_false, Int.not_lt, Int.not_le, Decidable.not_not, ne_eq] at hc2
        refine Hd.skip ?_
        refine Hd.inB ?_
        clear hK1 hK2 hK3 hK4 hK5 hK6 hK7 hK11
        have hne : ¬ bs.length = 0 := by omega
        rw [show writeS ⟨x, w, t⟩ now much = ⟨x, w', t⟩ from (hS hne).trans ((if_neg hc1).trans (if_pos hc2))]
        exact Hd.end0 rfl () rfl (fun q s => buf_backK (k := 1) (by omega) q (Ent.sep enn q s))
      ·
        try simp only [decide_eq_true_eq, decide_eq_false_iff_not, Bool.and_eq_true, Bool.or_eq_true, Bool.and_eq_false_iff, Bool.or_eq_false_iff, Bool.not_eq_true', Bool.not_eq_false', Bool.not_eq_true, Bool.not_eq_false, Int.not_lt, Int.not_le, Decidable.not_not, ne_eq] at hc2
        refine Hd.region ?_
        refine Hd.yv (y_move rfl) ?_
        refine Hd.yv (y_move rfl) ?_
        refine Hd.yv (y_move rfl) ?_
        refine Hd.callE rfl fk82 (stop_ct _ b 1 bt (x.s 1) t 34 ec) (Ent.sep enn) ?_
        intro _
        refine Hd.nil ?_
        refine Hd.slots [] trivial ?_
        refine Hd.inB ?_
        clear hK1 hK2 hK3 hK4 hK5 hK6 hK7 hK11
        have hne : ¬ bs.length = 0 := by omega
        rw [show writeS ⟨x, w, t⟩ now much = ⟨x.up 1 fun s => stopF s, w', stopT t 34 ec⟩ from (hS hne).trans ((if_neg hc1).trans (if_neg hc2))]
        refine Hd.end0 rfl () rfl (fun q s => buf_putK (k := 1) (x := x) (s' := stopF (x.s 1)) (by omega) q ?_)
        rw [bfL_up (by omega)]
        exact Ent.sep enn q s
end Bu
end Go.Proofs.YtmpemhbfgbochaaDoor
namespace Go.Proofs.YtmpemhbfgbochaaDoor
set_option linter.unusedSimpArgs false
set_option linter.unusedVariables false
set_option linter.unnecessarySimpa false
open Go.RX Fx
namespace Bu
open Wo
set_option maxRecDepth 8000
theorem tm_stop {x : BfA} (h : TmOk x) (k : Nat) : TmOk (x.up k fun s => stopF s) := h.up fun s ha _ => ⟨ha, by show InK .u64 18446744073709551615; simp [InK]⟩
theorem tm_set {x : BfA} (h : TmOk x) (k : Nat) {now : Int} (hn : InK .u64 now) (f : SdA → List UInt8) : TmOk (x.up k fun s => setA k now { s with c := f s }) := h.up fun s ha _ => ⟨ha, atV_in (s := { s with c := f s }) hn ha⟩
theorem tm_read {σ : StA} (h : TmOk σ.x) {now : Int} (hn : InK .u64 now) (most : Int) : TmOk (readS σ now most).x := by
  unfold readS rdP
  repeat' split
  all_goals first
    | exact h
    | exact tm_stop h 0
    | exact tm_set h 0 hn (fun s => addA s.c _)
def stepM (x : BfA) (flags : Int) : Int := bits .and .i64 flags (wantsA x)
def stepR (x : BfA) (w : WA) (now flags most : Int) : StA := if bits .and .i64 (stepM x flags) 2 ≠ 0 then readS ⟨x, w, noT⟩ now most else ⟨x, w, noT⟩
def stepS (x : BfA) (w : WA) (now flags most much : Int) : StA := if bits .and .i64 (stepM x flags) 4 ≠ 0 then writeS (stepR x w now flags most) now much else stepR x w now flags most
theorem tm_stepR {x : BfA} (h : TmOk x) {now : Int} (hn : InK .u64 now) (w : WA) (flags most : Int) : TmOk (stepR x w now flags most).x := by
  unfold stepR
  split
  · exact tm_read h hn most
  · exact h
set_option maxHeartbeats 2000000 in
theorem step_ct (L : List SP) (b wb : Nat) (x : BfA) (w : WA) (ht : TmOk x) (hh : InK .i64 (x.s 0).high) (now flags most much : Int) (hn : InK .u64 now) (hm : most ≤ 9223372036854775807) (hmu : InK .i64 much) : Ct Tryd.prog 29 #[.pointer (some ⟨b, 0, none⟩), .int .u64 now, .int .i64 flags, .int .i64 most, .int .i64 much] (BufP b wb x :: WorldP wb w :: L) (fun _ : Unit => .agg (encT (stepS x w now flags most much).t).toArray) (fun _ : Unit => BufP b wb (stepS x w now flags most much).x :: WorldP wb (stepS x w now flags most much).w :: L) := by
  refine Ct.of (vs := [.pointer (some ⟨b, 0, none⟩), .int .u64 now, .int .i64 flags, .int .i64 most, .int .i64 much]) Tryd.func29 rfl rfl [(0, .pointer (some ⟨b, 0, none⟩)), (1, .int .u64 now), (2, .int .i64 flags), (3, .int .i64 most), (4, .int .i64 much)] (by repeat (first | exact trivial | refine ⟨rfl, ?_⟩)) ?_
  intro E
  show Hd E 32 _ _ _ _
  refine Hd.seq (fun K1 hK1 => ?_)
  refine Hd.region ?_
  refine Hd.alloc zr37 (fun b10 => ?_)
  refine Hd.nil ?_
  refine Hd.slots [(0, _), (1, _), (2, _), (3, _), (4, _), (10, _)] ⟨rfl, rfl, rfl, rfl, rfl, rfl, trivial⟩ ?_
  refine Hd.toK hK1 ?_
  refine Hd.seq (fun K2 hK2 => ?_)
  refine Hd.region ?_
  refine Hd.alloc zr37 (fun b11 => ?_)
  refine Hd.nil ?_
  refine Hd.slots [(0, _), (1, _), (2, _), (3, _), (4, _), (10, _), (11, _)] ⟨rfl, rfl, rfl, rfl, rfl, rfl, rfl, trivial⟩ ?_
  refine Hd.toK hK2 ?_
  refine Hd.seq (fun K3 hK3 => ?_)
  refine Hd.region ?_
  refine Hd.yv (y_move rfl) ?_
  refine Hd.yv (y_move rfl) ?_
  refine Hd.callE rfl fk28 (wants_ct _ b wb x) (Ent.sep enn) ?_
  intro _
  refine Hd.yv (y_to (v' := .int .i64 (stepM x flags)) (y_and rfl rfl) (by rfl)) ?_
  refine Hd.yv (y_assign rfl) ?_
  refine Hd.nil ?_
  refine Hd.slots [(0, _), (1, _), (3, _), (4, _), (10, _), (11, _), (12, _)] ⟨rfl, rfl, rfl, rfl, rfl, rfl, rfl, trivial⟩ ?_
  refine Hd.toK hK3 ?_
  refine Hd.heap (ToP b11 noT :: pt b10 (encT noT) 37 :: BufP b wb x :: WorldP wb w :: L) (fun q s => Ent.sep (.eq pkk (pt_eq (by rfl)) (.eq pkk (pt_eq (by rfl)) enn)) q s) ?_
  refine Hd.cutK (ι := Unit) [(0, _), (1, _), (4, _), (10, _), (11, _), (12, _)] (fun _ => []) (fun _ => BufP b wb (stepR x w now flags most).x :: WorldP wb (stepR x w now flags most).w :: ToP b11 (stepR x w now flags most).t :: pt b10 (encT noT) 37 :: L) ?_ ?_ ⟨rfl, rfl, rfl, rfl, rfl, rfl, trivial⟩
  ·
    refine Hd.seq (fun K4 hK4 => ?_)
    refine Hd.region ?_
    refine Hd.yv (y_move rfl) ?_
    refine Hd.yv (y_and rfl rfl) ?_
    refine Hd.yv (y_neq rfl rfl) ?_
    refine Hd.nil ?_
    refine Hd.slots [(0, _), (1, _), (3, _), (4, _), (10, _), (11, _), (12, _), (19, _)] ⟨rfl, rfl, rfl, rfl, rfl, rfl, rfl, rfl, trivial⟩ ?_
    refine Hd.toK hK4 ?_
    refine Hd.cond rfl (fun hc0 => ?_) (fun hc0 => ?_)
    ·
      try simp only [decide_eq_true_eq, decide_eq_false_iff_not, Bool.and_eq_true, Bool.or_eq_true, Bool.and_eq_false_iff, Bool.or_eq_false_iff, Bool.not_eq_true', Bool.not_eq_false', Bool.not_eq_true, Bool.not_eq_false, Int.not_lt, Int.not_le, Decidable.not_not, ne_eq] at hc0
      refine Hd.region ?_
      refine Hd.yv (y_move rfl) ?_
      refine Hd.yv (y_move rfl) ?_
      refine Hd.yv (y_move rfl) ?_
      refine Hd.callE rfl fk55 (read_ct _ b wb b11 x w noT ht now most hn hm hh) (Ent.sep enn) ?_
      intro _
      refine Hd.nil ?_
      refine Hd.slots [(0, _), (1, _), (4, _), (10, _), (11, _), (12, _)] ⟨rfl, rfl, rfl, rfl, rfl, rfl, trivial⟩ ?_
      clear hK1 hK2 hK3 hK4
      refine Hd.thenN ?_
      rw [show stepR x w now flags most = readS ⟨x, w, noT⟩ now most from if_pos hc0]
      exact Hd.meet () (by repeat (first | exact trivial | refine ⟨rfl, ?_⟩)) (Ent.sep enn)
    ·
      try simp only [decide_eq_true_eq, decide_eq_false_iff_not, Bool.and_eq_true, Bool.or_eq_true, Bool.and_eq_false_iff, Bool.or_eq_false_iff, Bool.not_eq_true', Bool.not_eq_false', Bool.not_eq_true, Bool.not_eq_false, Int.not_lt, Int.not_le, Decidable.not_not, ne_eq] at hc0
      refine Hd.skip ?_
      clear hK1 hK2 hK3 hK4
      refine Hd.thenN ?_
      rw [show stepR x w now flags most = ⟨x, w, noT⟩ from if_neg (fun h => h hc0)]
      exact Hd.meet () (by repeat (first | exact trivial | refine ⟨rfl, ?_⟩)) (Ent.sep enn)
  ·
    intro _
    refine Hd.cutK (ι := Unit) [(10, _), (11, _)] (fun _ => []) (fun _ => BufP b wb (stepS x w now flags most much).x :: WorldP wb (stepS x w now flags most much).w :: ToP b11 (stepS x w now flags most much).t :: pt b10 (encT noT) 37 :: L) ?_ ?_ ⟨rfl, rfl, trivial⟩
    ·
      refine Hd.seq (fun K5 hK5 => ?_)
      refine Hd.region ?_
      refine Hd.yv (y_move rfl) ?_
      refine Hd.yv (y_and rfl rfl) ?_
      refine Hd.yv (y_neq rfl rfl) ?_
      refine Hd.nil ?_
      refine Hd.slots [(0, _), (1, _), (4, _), (10, _), (11, _), (26, _)] ⟨rfl, rfl, rfl, rfl, rfl, rfl, trivial⟩ ?_
      refine Hd.toK hK5 ?_
      refine Hd.cond rfl (fun hc1 => ?_) (fun hc1 => ?_)
      ·
        try simp only [decide_eq_true_eq, decide_eq_false_iff_not, Bool.and_eq_true, Bool.or_eq_true, Bool.and_eq_false_iff, Bool.or_eq_false_iff, Bool.not_eq_true', Bool.not_eq_false', Bool.not_eq_true, Bool.not_eq_false, Int.not_lt, Int.not_le, Decidable.not_not, ne_eq] at hc1
        refine Hd.region ?_
        refine Hd.yv (y_move rfl) ?_
        refine Hd.yv (y_move rfl) ?_
        refine Hd.yv (y_move rfl) ?_
        refine Hd.callE rfl fk56 (write_ct _ b wb b11 (stepR x w now flags most).x (stepR x w now flags most).w (stepR x w now flags most).t (tm_stepR ht hn w flags most) now much hn hmu) (Ent.sep enn) ?_
        intro _
        refine Hd.nil ?_
        refine Hd.slots [(10, _), (11, _)] ⟨rfl, rfl, trivial⟩ ?_
        clear hK1 hK2 hK3 hK5
        refine Hd.thenN ?_
        rw [show stepS x w now flags most much = writeS (stepR x w now flags most) now much from if_pos hc1]
        exact Hd.meet () (by repeat (first | exact trivial | refine ⟨rfl, ?_⟩)) (Ent.sep enn)
      ·
        try simp only [decide_eq_true_eq, decide_eq_false_iff_not, Bool.and_eq_true, Bool.or_eq_true, Bool.and_eq_false_iff, Bool.or_eq_false_iff, Bool.not_eq_true', Bool.not_eq_false', Bool.not_eq_true, Bool.not_eq_false, Int.not_lt, Int.not_le, Decidable.not_not, ne_eq] at hc1
        refine Hd.skip ?_
        clear hK1 hK2 hK3 hK5
        refine Hd.thenN ?_
        rw [show stepS x w now flags most much = stepR x w now flags most from if_neg (fun h => h hc1)]
        exact Hd.meet () (by repeat (first | exact trivial | refine ⟨rfl, ?_⟩)) (Ent.sep enn)
    ·
      intro _
      refine Hd.seq (fun K6 hK6 => ?_)
      refine Hd.region ?_
      refine Hd.yv (y_loadn (us := encT (stepS x w now flags most much).t) ag37 rfl (Rd.pt pkk (fun j v e => by rw [Nat.zero_add]; exact e)) (by exact sz37)) ?_
      refine Hd.storeA (us := encT (stepS x w now flags most much).t) sz37 rfl rfl rfl (by simp [Value.oneCell']) pkk (by exact rfl) ?_
      refine Hd.nil ?_
      refine Hd.slots [(10, _)] ⟨rfl, trivial⟩ ?_
      refine Hd.toK hK6 ?_
      refine Hd.ret ?_
      clear hK1 hK2 hK3 hK6
      exact Hd.retC rfl () ag37 rfl (Rd.pt (us := encT (stepS x w now flags most much).t) pkk (fun j v e => by rw [Nat.zero_add]; exact e)) (by exact sz37) rfl (Ent.sep enn)
end Bu
end Go.Proofs.YtmpemhbfgbochaaDoor
namespace Go.Proofs.YtmpemhbfgbochaaDoor
set_option linter.unusedSimpArgs false
set_option linter.unusedVariables false
set_option linter.unnecessarySimpa false
open Go.RX Fx
namespace Bu
open Wo
set_option maxRecDepth 8000
def SOk (s : SdA) : Prop := (InK .u64 s.after ∧ InK .u64 s.at_) ∧ (0 ≤ s.low ∧ s.low ≤ 1048576) ∧ 0 ≤ s.high ∧ s.high ≤ 1048576
def BOk (x : BfA) : Prop := ∀ k, k < 2 → SOk (x.s k)
theorem BOk.tm {x : BfA} (h : BOk x) : TmOk x := fun k hk => (h k hk).1
theorem BOk.hi {x : BfA} (h : BOk x) : InK .i64 (x.s 0).high := by
  have := (h 0 (by omega)).2.2
  simp only [InK]; omega
theorem bok_up {x : BfA} (h : BOk x) {k : Nat} {f : SdA → SdA} (hf : ∀ s, SOk s → SOk (f s)) : BOk (x.up k f) := fun j hj => by
  by_cases e : j = k
  · subst e; rw [bup_at]; exact hf _ (h j hj)
  · rw [bup_ne _ _ e]; exact h j hj
theorem bok_eff {f : Nat → SdA → SdA} {x : BfA} (h : BOk x) (hf : ∀ k s, SOk s → SOk (f k s)) (ks : List Nat) : BOk (effB f x ks) := fun j hj => by
  show SOk (if j ∈ ks then f j (x.s j) else x.s j)
  split
  · exact hf _ _ (h j hj)
  · exact h j hj
theorem sok_nv {s : SdA} (h : SOk s) (on en : Bool) : SOk { s with on := on, ended := en, at_ := NV } := ⟨⟨h.1.1, by show InK .u64 18446744073709551615; simp [InK]⟩, h.2⟩
theorem sok_set {s : SdA} (h : SOk s) (k : Nat) {now : Int} (hn : InK .u64 now) (on : Bool) (c : List UInt8) : SOk (setA k now { s with on := on, c := c }) := ⟨⟨h.1.1, atV_in (s := { s with on := on, c := c }) hn h.1.1⟩, h.2⟩
theorem bok_new (fd : Int) : BOk (newB fd) := fun k hk => ⟨tm_new fd k hk, ⟨Int.le_refl 0, by show (0 : Int) ≤ _; omega⟩, Int.le_refl 0, by show (0 : Int) ≤ _; omega⟩
theorem bok_en {x : BfA} (h : BOk x) {now : Int} (hn : InK .u64 now) (sides : Int) : BOk (enB x now sides) := by
  unfold enB
  split
  · refine bok_eff h (fun k s hs => ?_) _
    show SOk (if s.on = true then s else setA k now { s with on := true })
    split
    · exact hs
    · exact sok_set hs k hn true s.c
  · exact h
theorem bok_read {σ : StA} (h : BOk σ.x) {now : Int} (hn : InK .u64 now) (most : Int) : BOk (readS σ now most).x := by
  unfold readS rdP
  repeat' split
  all_goals first
    | exact h
    | exact bok_up h fun s hs => sok_nv hs false true
    | exact bok_up h fun s hs => sok_set hs 0 hn s.on _
theorem bok_write {σ : StA} (h : BOk σ.x) {now : Int} (hn : InK .u64 now) (much : Int) : BOk (writeS σ now much).x := by
  unfold writeS wrP
  repeat' split
  all_goals first
    | exact h
    | exact bok_up h fun s hs => sok_nv hs false true
    | exact bok_up h fun s hs => sok_set hs 1 hn s.on _
theorem bok_stepR {x : BfA} (h : BOk x) {now : Int} (hn : InK .u64 now) (w : WA) (flags most : Int) : BOk (stepR x w now flags most).x := by
  unfold stepR
  split
  · exact bok_read h hn most
  · exact h
theorem bok_step {x : BfA} (h : BOk x) {now : Int} (hn : InK .u64 now) (w : WA) (flags most much : Int) : BOk (stepS x w now flags most much).x := by
  unfold stepS
  split
  · exact bok_write (bok_stepR h hn w flags most) hn much
  · exact bok_stepR h hn w flags most
theorem bok_get {x : BfA} (h : BOk x) (n : Int) : BOk (readB x n) := by
  unfold readB
  split
  · exact h
  · exact bok_up h fun s hs => hs
abbrev pairA (n : Nat) : WA := mkW newA 2 (halfW n 2)
end Bu
end Go.Proofs.YtmpemhbfgbochaaDoor
namespace Go.Proofs.YtmpemhbfgbochaaDoor
set_option linter.unusedSimpArgs false
set_option linter.unusedVariables false
set_option linter.unnecessarySimpa false
open Go.RX Fx
namespace Lm
open Bu
set_option maxRecDepth 8000
structure RtA where
  many : Int
  every : Int
  burst : Int
abbrev encRt (r : RtA) : List Value := [.int .i64 r.many, .int .u64 r.every, .int .i64 r.burst]
structure BkA where
  r : RtA
  have_ : Int
  clk : Int
abbrev encB (x : BkA) : List Value := [.int .i64 x.r.many, .int .u64 x.r.every, .int .i64 x.r.burst, .int .i64 x.have_, .int .u64 x.clk]
abbrev BkP (b : Nat) (x : BkA) : SP := pt b (encB x) 142
structure RtOk (r : RtA) : Prop where
  m1 : 1 ≤ r.many
  m2 : r.many ≤ 2147483647
  e1 : 1 ≤ r.every
  e2 : r.every ≤ 1048576
  b1 : r.many ≤ r.burst
  b2 : r.burst ≤ 2147483647
def rtBad (r : RtA) : Bool := (((decide (r.many < 1) || decide (r.many > 2147483647)) || (decide (r.every < 1) || decide (r.every > 1048576))) || decide (r.burst < r.many)) || decide (r.burst > 2147483647)
theorem rt_ok {r : RtA} (h : rtBad r = false) : RtOk r := by
  unfold rtBad at h
  simp only [Bool.or_eq_false_iff, decide_eq_false_iff_not] at h
  exact ⟨by omega, by omega, by omega, by omega, by omega, by omega⟩
theorem rt_bad {r : RtA} (h : RtOk r) : rtBad r = false := by
  obtain ⟨h1, h2, h3, h4, h5, h6⟩ := h
  unfold rtBad
  simp only [Bool.or_eq_false_iff, decide_eq_false_iff_not]
  omega
structure BkOk (x : BkA) : Prop where
  r : RtOk x.r
  h0 : 0 ≤ x.have_
  h1 : x.have_ ≤ x.r.burst
  clk : InK .u64 x.clk
def per (x : BkA) (now : Int) : Int := (now - x.clk) / x.r.every
def fil (x : BkA) : Int := (x.r.burst - x.have_) / x.r.many
def come (x : BkA) (now : Int) : BkA := if now ≤ x.clk then x else { x with have_ := min x.r.burst (x.have_ + min (per x now) (fil x + 1) * x.r.many), clk := x.clk + per x now * x.r.every }
theorem per_b {x : BkA} (h : BkOk x) {now : Int} (hn : InK .u64 now) (hc : ¬ now ≤ x.clk) : 0 ≤ per x now ∧ per x now ≤ now - x.clk ∧ 0 ≤ per x now * x.r.every ∧ per x now * x.r.every ≤ now - x.clk := by
  have he := h.r.e1
  have h1 : 0 ≤ per x now := Int.ediv_nonneg (by omega) (by omega)
  have h2 : per x now * x.r.every ≤ now - x.clk := Int.ediv_mul_le _ (by omega)
  have h3 : per x now ≤ per x now * x.r.every := by
    have := Int.mul_le_mul_of_nonneg_left he h1
    rwa [Int.mul_one] at this
  exact ⟨h1, by omega, by omega, h2⟩
theorem fil_b {x : BkA} (h : BkOk x) (t : Int) (ht : 0 ≤ t) : 0 ≤ fil x ∧ fil x ≤ x.r.burst - x.have_ ∧ 0 ≤ min t (fil x + 1) * x.r.many ∧ min t (fil x + 1) * x.r.many ≤ 4294967294 := by
  have hm := h.r.m1
  have hm2 := h.r.m2
  have hb2 := h.r.b2
  have h0 := h.h0
  have h1 := h.h1
  have e1 : 0 ≤ fil x := Int.ediv_nonneg (by omega) (by omega)
  have e2 : fil x * x.r.many ≤ x.r.burst - x.have_ := Int.ediv_mul_le _ (by omega)
  have e3 : fil x ≤ fil x * x.r.many := by
    have := Int.mul_le_mul_of_nonneg_left hm e1
    rwa [Int.mul_one] at this
  have e4 : min t (fil x + 1) * x.r.many ≤ (fil x + 1) * x.r.many := Int.mul_le_mul_of_nonneg_right (by omega) (by omega)
  have e5 : (fil x + 1) * x.r.many = fil x * x.r.many + x.r.many := by rw [Int.add_mul, Int.one_mul]
  exact ⟨e1, by omega, Int.mul_nonneg (by omega) (by omega), by omega⟩
theorem come_ok {x : BkA} (h : BkOk x) {now : Int} (hn : InK .u64 now) : BkOk (come x now) := by
  unfold come
  split
  · exact h
  · rename_i hc
    have hp := per_b h hn hc
    have hf := fil_b h (per x now) hp.1
    have hb := h.h1
    have h0 := h.h0
    have hclk := h.clk
    have hm := h.r.m1
    have hb1 := h.r.b1
    simp only [InK] at hn hclk
    refine ⟨h.r, ?_, ?_, ?_⟩
    · show 0 ≤ min x.r.burst _; omega
    · show min x.r.burst _ ≤ x.r.burst; omega
    · show InK .u64 (x.clk + per x now * x.r.every)
      simp only [InK]; omega
theorem come_r (x : BkA) (now : Int) : (come x now).r = x.r := by unfold come; split <;> rfl
theorem come_idem {x : BkA} (h : BkOk x) {now : Int} (hn : InK .u64 now) : come (come x now) now = come x now := by
  by_cases hc : now ≤ x.clk
  · rw [show come x now = x from if_pos hc, show come x now = x from if_pos hc]
  · have hp := per_b h hn hc
    have he := h.r.e1
    obtain ⟨y, hy⟩ : ∃ y, come x now = y := ⟨_, rfl⟩
    have hyr : y.r = x.r := by rw [← hy]; exact come_r x now
    have hyc : y.clk = x.clk + per x now * x.r.every := by rw [← hy]; unfold come; rw [if_neg hc]
    have hyo : BkOk y := by rw [← hy]; exact come_ok h hn
    rw [hy]
    unfold come
    split
    · rfl
    · rename_i hc2
      have hz : per y now = 0 := by
        unfold per
        rw [hyr, hyc]
        have e : now - (x.clk + per x now * x.r.every) = (now - x.clk) % x.r.every := by
          have h1 := Int.ediv_mul_add_emod (now - x.clk) x.r.every
          unfold per; omega
        rw [e]
        exact Int.ediv_eq_zero_of_lt (Int.emod_nonneg _ (by omega)) (Int.emod_lt_of_pos _ (by omega))
      have hf := (fil_b hyo 0 (by omega)).1
      have h1 := hyo.h1
      rw [hz]
      obtain ⟨r, hv, c⟩ := y
      show BkA.mk r (min r.burst (hv + min 0 (_ + 1) * r.many)) (c + 0 * r.every) = _
      rw [show min (0 : Int) (fil ⟨r, hv, c⟩ + 1) = 0 by omega, Int.zero_mul, Int.zero_mul]
      congr 1
      · have h1' : hv ≤ r.burst := h1
        omega
      · omega
set_option maxHeartbeats 2000000 in
theorem bknone_ct (L : List SP) (b : Nat) (x : BkA) (h : BkOk x) : Ct Tryd.prog 66 #[.pointer (some ⟨b, 0, none⟩)] (BkP b x :: L) (fun _ : Unit => .bool false) (fun _ : Unit => BkP b x :: L) := by
  refine Ct.of (vs := [.pointer (some ⟨b, 0, none⟩)]) Tryd.func66 rfl rfl [(0, .pointer (some ⟨b, 0, none⟩))] (by repeat (first | exact trivial | refine ⟨rfl, ?_⟩)) ?_
  intro E
  show Hd E 13 _ _ _ _
  have he := h.r.e1
  refine Hd.seq (fun K1 hK1 => ?_)
  refine Hd.region ?_
  refine Hd.yv (y_assign rfl) ?_
  refine Hd.nil ?_
  refine Hd.slots [(0, _)] ⟨rfl, trivial⟩ ?_
  refine Hd.toK hK1 ?_
  refine Hd.seq (fun K2 hK2 => ?_)
  refine Hd.region ?_
  refine Hd.yv (y_move rfl) ?_
  first | (refine Hd.yv (y_eql_pointer Tryd.underlying76 rfl rfl) ?_) | (refine Hd.yv (y_eql_one Tryd.underlying76 sz142 rfl rfl rfl) ?_)
  refine Hd.yv (y_move rfl) ?_
  refine Hd.yg rfl rfl (y_move rfl) ?_
  refine Hd.yg rfl rfl (y_nilp rfl) ?_
  first | (refine Hd.yg rfl rfl (y_field' (q := 0) (ft := 24) Tryd.underlying142 rfl sz24 rfl rfl) ?_) | (refine Hd.yg rfl rfl (y_fieldR (q := 0) (ft := 24) Tryd.underlying142 rfl sz24 rfl rfl) ?_)
  first | (refine Hd.yg rfl rfl (y_field' (q := 1) (ft := 22) Tryd.underlying24 rfl sz22 rfl rfl) ?_) | (refine Hd.yg rfl rfl (y_fieldR (q := 1) (ft := 22) Tryd.underlying24 rfl sz22 rfl rfl) ?_)
  first | (refine Hd.yg rfl rfl (y_load1 ag22 rfl (Rd.pt1 pkk (by (first | rfl)))) ?_) | (refine Hd.yg rfl rfl (y_load1 ag22 rfl (Rd.seg1 pkk (by (first | rfl)))) ?_) | (refine Hd.yg rfl rfl (y_loadR1 ag22 rfl (by (first | exact RdS.own pkk)) (by (first | rfl))) ?_)
  first | (refine Hd.yg rfl rfl (y_to (y_eqlT rfl rfl) (congrArg Value.bool (decide_eq_false ((by omega))))) ?_) | (refine Hd.yg rfl rfl (y_to (y_eql rfl rfl) (congrArg Value.bool (decide_eq_false ((by omega))))) ?_)
  first | (refine Hd.yv (y_pickT rfl rfl) ?_) | (refine Hd.yv (y_pickF rfl rfl) ?_) | (refine Hd.yv (y_pickb rfl rfl rfl) ?_) | (refine Hd.yv (y_pick rfl rfl rfl) ?_)
  refine Hd.yv (y_assign rfl) ?_
  refine Hd.nil ?_
  refine Hd.slots [(2, _)] ⟨rfl, trivial⟩ ?_
  refine Hd.toK hK2 ?_
  refine Hd.ret ?_
  clear hK1 hK2
  exact Hd.ret1 rfl () (by first | rfl | (simp only [*]; done) | (simp [*]; done)) (Ent.sep enn)
end Lm
end Go.Proofs.YtmpemhbfgbochaaDoor
