/-
  The law ChainPlays: the calls, the bytes of one, and the bound; and a chain moved into itself.
-/
import Derived.Test.YtgifpkpkkgkfeaaBd2
namespace Go.Proofs.Ytgifpkpkkgkfeaa
set_option linter.unusedSimpArgs false
set_option linter.unusedVariables false
set_option linter.unnecessarySimpa false
open Go.RX Fx
namespace Bc
structure Opv where
  k : Int
  wh : Int
  wa : Option Addr
  wc : Nat
  w : List UInt8
  nn : Int
  f : Int
  mm : Int
abbrev encO (o : Opv) : List Value := opC o.k o.wh o.wa o.w.length o.wc o.nn o.f o.mm
abbrev aggO (o : Opv) : Value := .agg #[.int .i64 o.k, .int .u8 o.wh, .slice o.wa o.w.length o.wc, .int .i64 o.nn, .int .i64 o.f, .int .u32 o.mm]
structure OpOk (L : List SP) (o : Opv) : Prop where
  rd : RdS L 1 o.wa o.w.length (bsl o.w)
  nn : InK .i64 o.nn
  f : InK .i64 o.f
  mm : InK .u32 o.mm
  wh : InK .u8 o.wh
def btsOf (w : List UInt8) (mm : Int) : List UInt8 := if 0 < mm then List.replicate (mm.toNat % 1100000) 0 else w
theorem btsOf_le {w : List UInt8} {mm : Int} (h : w.length ≤ 3000) : (btsOf w mm).length ≤ 1100000 := by
  unfold btsOf; split
  · rw [List.length_replicate]; omega
  · omega
theorem noughts_cells (n : Nat) : (List.range (n * 1)).map (fun i => ([.int .u8 0] : List Value).getD (i % 1) (.bool false)) = bsl (List.replicate n 0) := by
  rw [Nat.mul_one]
  apply List.ext_getElem
  · simp
  · intro i h1 h2
    simp [Nat.mod_one, B]
set_option maxHeartbeats 2000000 in
theorem bytes_ct (L : List SP) (o : Opv) (ho : OpOk L o) (hwl : o.w.length ≤ 3000) : Ct Try.prog 61 #[aggO o] (L) (fun q_ : Option Addr × Nat => .slice q_.1 (btsOf o.w o.mm).length q_.2) (fun q_ : Option Addr × Nat => own 5 1 q_.1 (btsOf o.w o.mm).length q_.2 (bsl (btsOf o.w o.mm)) :: L) := by
  refine Ct.of (vs := [aggO o]) Try.func61 rfl rfl [(0, aggO o)] (by repeat (first | exact trivial | refine ⟨rfl, ?_⟩)) ?_
  intro E
  show Hd E 15 _ _ _ _
  have hmm := ho.mm
  simp only [InK] at hmm
  refine Hd.seq (fun K1 hK1 => ?_)
  refine Hd.region ?_
  refine Hd.box rfl rfl (fun b1 => ?_)
  refine Hd.yv (y_assign rfl) ?_
  refine Hd.nil ?_
  refine Hd.slots [(1, _)] ⟨rfl, trivial⟩ ?_
  refine Hd.toK hK1 ?_
  refine Hd.seq (fun K2 hK2 => ?_)
  refine Hd.seq (fun K3 hK3 => ?_)
  refine Hd.region ?_
  first | (refine Hd.yv (y_field' (q := 5) (ft := 34) Try.underlying36 rfl sz34 rfl rfl) ?_) | (refine Hd.yv (y_fieldR (q := 5) (ft := 34) Try.underlying36 rfl sz34 rfl rfl) ?_)
  first | (refine Hd.yv (y_load1 ag34 rfl (Rd.pt1 pkk (by (first | rfl)))) ?_) | (refine Hd.yv (y_load1 ag34 rfl (Rd.seg1 pkk (by (first | rfl)))) ?_) | (refine Hd.yv (y_loadR1 ag34 rfl (by (first | exact RdS.own pkk | exact RdS.mono ho.rd (Ent.sep enn))) (by (first | rfl))) ?_)
  refine Hd.yv (y_gtr rfl rfl) ?_
  refine Hd.nil ?_
  refine Hd.slots [(1, _), (5, _)] ⟨rfl, rfl, trivial⟩ ?_
  refine Hd.toK hK3 ?_
  refine Hd.cond rfl (fun hc0 => ?_) (fun hc0 => ?_)
  ·
    try simp only [decide_eq_true_eq, decide_eq_false_iff_not, Bool.and_eq_true, Bool.or_eq_true, Bool.and_eq_false_iff, Bool.or_eq_false_iff, Bool.not_eq_true', Bool.not_eq_false', Bool.not_eq_true, Bool.not_eq_false, Int.not_lt, Int.not_le, Decidable.not_not, ne_eq] at hc0
    refine Hd.seq (fun K4 hK4 => ?_)
    refine Hd.region ?_
    first | (refine Hd.yv (y_field' (q := 5) (ft := 34) Try.underlying36 rfl sz34 rfl rfl) ?_) | (refine Hd.yv (y_fieldR (q := 5) (ft := 34) Try.underlying36 rfl sz34 rfl rfl) ?_)
    first | (refine Hd.yv (y_load1 ag34 rfl (Rd.pt1 pkk (by (first | rfl)))) ?_) | (refine Hd.yv (y_load1 ag34 rfl (Rd.seg1 pkk (by (first | rfl)))) ?_) | (refine Hd.yv (y_loadR1 ag34 rfl (by (first | exact RdS.own pkk | exact RdS.mono ho.rd (Ent.sep enn))) (by (first | rfl))) ?_)
    first | (refine Hd.yv (y_convn rfl Try.underlying34 Try.underlying3 (by simp only [InK]; omega)) ?_) | (refine Hd.yv (y_conv rfl Try.underlying34 Try.underlying3) ?_)
    first | (refine Hd.yv (y_remN rfl rfl (by omega)) ?_) | (refine Hd.yv (y_remn rfl rfl (by omega) (by omega)) ?_) | (refine Hd.yv (y_rem rfl rfl (by omega)) ?_)
    refine Hd.name (b := ((o.mm.toNat % 1100000 : Nat) : Int)) 9 rfl (by omega) ?_
    refine Hd.mkslice Try.underlying22 ty5 zr5 rfl rfl rfl rfl (by omega) (by omega) (by simp only [maxLen]; omega) (fun b10 cs10 hcs10 => ?_)
    refine Hd.yv (y_assign rfl) ?_
    refine Hd.nil ?_
    refine Hd.slots [(2, _)] ⟨rfl, trivial⟩ ?_
    refine Hd.toK hK4 ?_
    refine Hd.ret ?_
    refine Hd.thenRet ?_
    clear hK1 hK2 hK3 hK4
    have e : btsOf o.w o.mm = List.replicate (o.mm.toNat % 1100000) 0 := by unfold btsOf; rw [if_pos (by omega)]
    rw [noughts_cells] at hcs10
    subst hcs10
    refine Hd.ptOwn (o.mm.toNat % 1100000) 1 pkk (by simp) (by simp only [maxLen]; omega) ?_
    rw [e]
    exact Hd.ret1 rfl (some ⟨b10, 0, none⟩, o.mm.toNat % 1100000) (by simp; rfl) (Ent.sep (.eq pkk (own_eq3 (by simp) rfl rfl) enn))
  ·
    try simp only [decide_eq_true_eq, decide_eq_false_iff_not, Bool.and_eq_true, Bool.or_eq_true, Bool.and_eq_false_iff, Bool.or_eq_false_iff, Bool.not_eq_true', Bool.not_eq_false', Bool.not_eq_true, Bool.not_eq_false, Int.not_lt, Int.not_le, Decidable.not_not, ne_eq] at hc0
    refine Hd.skip ?_
    refine Hd.toK hK2 ?_
    refine Hd.seq (fun K5 hK5 => ?_)
    refine Hd.region ?_
    refine Hd.bslice (vs := []) rfl (by first | exact bs61_11 .. | kernel_rfl) (fun b11 => ?_)
    refine Hd.ownNil 5 1 (some ⟨b11, 0, none⟩) ?_
    first | (refine Hd.yv (y_field' (q := 2) (ft := 22) Try.underlying36 rfl sz22 rfl rfl) ?_) | (refine Hd.yv (y_fieldR (q := 2) (ft := 22) Try.underlying36 rfl sz22 rfl rfl) ?_)
    first | (refine Hd.yv (y_load1 ag22 rfl (Rd.pt1 pkk (by (first | rfl)))) ?_) | (refine Hd.yv (y_load1 ag22 rfl (Rd.seg1 pkk (by (first | rfl)))) ?_) | (refine Hd.yv (y_loadR1 ag22 rfl (by (first | exact RdS.own pkk | exact RdS.mono ho.rd (Ent.sep enn))) (by (first | rfl))) ?_)
    refine Hd.ptOwn 0 1 pkk rfl (by simp only [maxLen]; omega) ?_
    refine Hd.append Try.underlying22 ty5 rfl rfl rfl pkk (by first | exact RdS.rd (Rd.pt pkk (fun j v e => by simpa using e)) rfl | (first | exact RdS.own pkk | exact RdS.mono ho.rd (Ent.sep enn))) (by first | (simp [Value.oneCell']; done) | assumption) (by first | (simp only [maxLen]; omega) | assumption) (by omega) (fun ad14 cap14 => ?_)
    refine Hd.yv (y_assign rfl) ?_
    refine Hd.nil ?_
    refine Hd.slots [(2, _)] ⟨rfl, trivial⟩ ?_
    refine Hd.toK hK5 ?_
    refine Hd.ret ?_
    clear hK1 hK2 hK3 hK5
    have e : btsOf o.w o.mm = o.w := by unfold btsOf; rw [if_neg (by omega)]
    rw [e]
    exact Hd.ret1 rfl (ad14, cap14) (by simp; rfl) (Ent.sep (.eq pkk (own_eq (by simp) (by simp)) enn))
set_option maxHeartbeats 2000000 in
theorem great_ct (L : List SP) (ad : Option Addr) (c : Nat) (xs : List Opv) (hR : RdS L 6 ad xs.length (xs.flatMap encO)) : Ct Try.prog 26 #[.slice ad xs.length c] (L) (fun g : Bool => .bool g) (fun g : Bool => pu (g = false → xs.length ≤ 100 ∧ ∀ o ∈ xs, o.w.length ≤ 3000) :: L) := by
  refine Ct.of (vs := [.slice ad xs.length c]) Try.func26 rfl rfl [(0, .slice ad xs.length c)] (by repeat (first | exact trivial | refine ⟨rfl, ?_⟩)) ?_
  intro E
  show Hd E 31 _ _ _ _
  refine Hd.seq (fun K1 hK1 => ?_)
  refine Hd.region ?_
  refine Hd.yv (y_assign rfl) ?_
  refine Hd.nil ?_
  refine Hd.slots [(0, _)] ⟨rfl, trivial⟩ ?_
  refine Hd.toK hK1 ?_
  refine Hd.seq (fun K2 hK2 => ?_)
  refine Hd.seq (fun K3 hK3 => ?_)
  refine Hd.region ?_
  refine Hd.yv (y_move rfl) ?_
  refine Hd.yv (y_len Try.underlying51 rfl) ?_
  refine Hd.yv (y_gtr rfl rfl) ?_
  refine Hd.nil ?_
  refine Hd.slots [(0, _), (7, _)] ⟨rfl, rfl, trivial⟩ ?_
  refine Hd.toK hK3 ?_
  refine Hd.cond rfl (fun hc0 => ?_) (fun hc0 => ?_)
  ·
    try simp only [decide_eq_true_eq, decide_eq_false_iff_not, Bool.and_eq_true, Bool.or_eq_true, Bool.and_eq_false_iff, Bool.or_eq_false_iff, Bool.not_eq_true', Bool.not_eq_false', Bool.not_eq_true, Bool.not_eq_false, Int.not_lt, Int.not_le, Decidable.not_not, ne_eq] at hc0
    refine Hd.seq (fun K4 hK4 => ?_)
    refine Hd.region ?_
    refine Hd.yv (y_assign rfl) ?_
    refine Hd.nil ?_
    refine Hd.slots [(2, _)] ⟨rfl, trivial⟩ ?_
    refine Hd.toK hK4 ?_
    refine Hd.ret ?_
    refine Hd.thenRet ?_
    clear hK1 hK2 hK3 hK4
    exact Hd.ret1 rfl true rfl (Ent.sep (.pure (fun h => by cases h) enn))
  ·
    try simp only [decide_eq_true_eq, decide_eq_false_iff_not, Bool.and_eq_true, Bool.or_eq_true, Bool.and_eq_false_iff, Bool.or_eq_false_iff, Bool.not_eq_true', Bool.not_eq_false', Bool.not_eq_true, Bool.not_eq_false, Int.not_lt, Int.not_le, Decidable.not_not, ne_eq] at hc0
    have hx : xs.length ≤ 100 := by omega
    refine Hd.skip ?_
    refine Hd.toK hK2 ?_
    refine Hd.seq (fun K5 hK5 => ?_)
    refine Hd.region ?_
    refine Hd.yv (y_assign rfl) ?_
    refine Hd.nil ?_
    refine Hd.slots [(0, _), (3, _)] ⟨rfl, rfl, trivial⟩ ?_
    refine Hd.toK hK5 ?_
    refine Hd.seq (fun K6 hK6 => ?_)
    refine Hd.seq (fun K7 hK7 => ?_)
    refine Hd.region ?_
    refine Hd.yv (y_move rfl) ?_
    refine Hd.yv (y_len Try.underlying51 rfl) ?_
    refine Hd.yv (y_move rfl) ?_
    refine Hd.nil ?_
    refine Hd.slots [(0, _), (3, _), (9, _), (10, _)] ⟨rfl, rfl, rfl, rfl, trivial⟩ ?_
    refine Hd.toK hK7 ?_
    refine Hd.block ?_
    refine Hd.loopK (ι := Nat × Nat) [(0, _), (9, _)] (fun q_ => [(3, .int .i64 (q_.2 : Int)), (10, .int .i64 (q_.1 : Int))]) (fun q_ => pu (q_.1 ≤ xs.length ∧ q_.2 ≤ q_.1 ∧ ∀ o ∈ xs.take q_.1, o.w.length ≤ 3000) :: L) (fun q_ => xs.length - q_.1) (0, 0) (by repeat (first | exact trivial | refine ⟨rfl, ?_⟩)) (by repeat (first | exact trivial | refine ⟨rfl, ?_⟩)) (Ent.sep (.pure ⟨Nat.zero_le _, Nat.le_refl _, fun o ho => by simp at ho⟩ enn)) ?_
    rintro ⟨i, many⟩
    try dsimp only
    refine Hd.pure (fun hp0 => ?_)
    try dsimp only at hp0
    refine Hd.seq (fun K8 hK8 => ?_)
    refine Hd.region ?_
    refine Hd.yv (y_lss rfl rfl) ?_
    refine Hd.nil ?_
    refine Hd.slots [(0, _), (3, _), (9, _), (10, _), (11, _)] ⟨rfl, rfl, rfl, rfl, rfl, trivial⟩ ?_
    refine Hd.toK hK8 ?_
    refine Hd.seq (fun K9 hK9 => ?_)
    refine Hd.cond rfl (fun hc1 => ?_) (fun hc1 => ?_)
    ·
      try simp only [decide_eq_true_eq, decide_eq_false_iff_not, Bool.and_eq_true, Bool.or_eq_true, Bool.and_eq_false_iff, Bool.or_eq_false_iff, Bool.not_eq_true', Bool.not_eq_false', Bool.not_eq_true, Bool.not_eq_false, Int.not_lt, Int.not_le, Decidable.not_not, ne_eq] at hc1
      have hi : i < xs.length := by omega
      obtain ⟨o, ho⟩ : ∃ o, xs[i]? = some o := ⟨_, List.getElem?_eq_getElem hi⟩
      refine Hd.skip ?_
      refine Hd.toK hK9 ?_
      refine Hd.seq (fun K10 hK10 => ?_)
      refine Hd.block ?_
      refine Hd.seq (fun K11 hK11 => ?_)
      refine Hd.region ?_
      refine Hd.yv (y_move rfl) ?_
      refine Hd.yv (y_assign rfl) ?_
      refine Hd.nil ?_
      refine Hd.slots [(0, _), (3, _), (4, _), (9, _), (10, _)] ⟨rfl, rfl, rfl, rfl, rfl, trivial⟩ ?_
      refine Hd.toK hK11 ?_
      refine Hd.seq (fun K12 hK12 => ?_)
      refine Hd.seq (fun K13 hK13 => ?_)
      refine Hd.region ?_
      refine Hd.yv (y_move rfl) ?_
      refine Hd.yv (y_move rfl) ?_
      first | (refine Hd.yv (y_idxS Try.underlying51 sz36 rfl rfl (by first | omega | decide)) ?_) | (refine Hd.yv (y_idxR Try.underlying51 sz36 rfl rfl (by first | omega | decide) (by (first | exact RdS.own pkk | exact RdS.mono hR (Ent.sep enn)))) ?_)
      first | (refine Hd.yv (y_field' (q := 2) (ft := 22) Try.underlying36 rfl sz22 rfl rfl) ?_) | (refine Hd.yv (y_fieldR (q := 2) (ft := 22) Try.underlying36 rfl sz22 rfl rfl) ?_)
      first | (refine Hd.yv (y_load1 ag22 rfl (Rd.pt1 pkk (by (first | exact flat_cells encO 6 (fun _ => rfl) ho 2 _ rfl | exact flat_cells encO 6 (fun _ => rfl) ho 5 _ rfl | rfl)))) ?_) | (refine Hd.yv (y_load1 ag22 rfl (Rd.seg1 pkk (by (first | exact flat_cells encO 6 (fun _ => rfl) ho 2 _ rfl | exact flat_cells encO 6 (fun _ => rfl) ho 5 _ rfl | rfl)))) ?_) | (refine Hd.yv (y_loadR1 ag22 rfl (by (first | exact RdS.own pkk | exact RdS.mono hR (Ent.sep enn))) (by (first | exact flat_cells encO 6 (fun _ => rfl) ho 2 _ rfl | exact flat_cells encO 6 (fun _ => rfl) ho 5 _ rfl | rfl))) ?_)
      refine Hd.yv (y_len Try.underlying22 rfl) ?_
      refine Hd.yv (y_gtr rfl rfl) ?_
      refine Hd.nil ?_
      refine Hd.slots [(0, _), (3, _), (4, _), (9, _), (10, _), (19, _)] ⟨rfl, rfl, rfl, rfl, rfl, rfl, trivial⟩ ?_
      refine Hd.toK hK13 ?_
      refine Hd.cond rfl (fun hc2 => ?_) (fun hc2 => ?_)
      ·
        try simp only [decide_eq_true_eq, decide_eq_false_iff_not, Bool.and_eq_true, Bool.or_eq_true, Bool.and_eq_false_iff, Bool.or_eq_false_iff, Bool.not_eq_true', Bool.not_eq_false', Bool.not_eq_true, Bool.not_eq_false, Int.not_lt, Int.not_le, Decidable.not_not, ne_eq] at hc2
        refine Hd.seq (fun K14 hK14 => ?_)
        refine Hd.region ?_
        refine Hd.yv (y_assign rfl) ?_
        refine Hd.nil ?_
        refine Hd.slots [(2, _)] ⟨rfl, trivial⟩ ?_
        refine Hd.toK hK14 ?_
        refine Hd.ret ?_
        refine Hd.thenRet ?_
        refine Hd.inBret ?_
        refine Hd.thenRet ?_
        refine Hd.thenRet ?_
        refine Hd.inBret ?_
        refine Hd.thenRet ?_
        clear hK1 hK2 hK3 hK5 hK6 hK7 hK8 hK9 hK10 hK11 hK12 hK13 hK14
        exact Hd.ret1 rfl true rfl (Ent.sep (.pure (fun h => by cases h) enn))
      ·
        try simp only [decide_eq_true_eq, decide_eq_false_iff_not, Bool.and_eq_true, Bool.or_eq_true, Bool.and_eq_false_iff, Bool.or_eq_false_iff, Bool.not_eq_true', Bool.not_eq_false', Bool.not_eq_true, Bool.not_eq_false, Int.not_lt, Int.not_le, Decidable.not_not, ne_eq] at hc2
        have hall : ∀ o ∈ xs.take (i + 1), o.w.length ≤ 3000 := fun q hq => by
          rw [List.take_add_one, ho] at hq
          rcases List.mem_append.1 hq with h | h
          · exact hp0.2.2 q h
          · simp at h; subst h; omega
        refine Hd.skip ?_
        refine Hd.toK hK12 ?_
        refine Hd.seq (fun K15 hK15 => ?_)
        refine Hd.region ?_
        refine Hd.yv (y_move rfl) ?_
        refine Hd.yv (y_move rfl) ?_
        first | (refine Hd.yv (y_idxS Try.underlying51 sz36 rfl rfl (by first | omega | decide)) ?_) | (refine Hd.yv (y_idxR Try.underlying51 sz36 rfl rfl (by first | omega | decide) (by (first | exact RdS.own pkk | exact RdS.mono hR (Ent.sep enn)))) ?_)
        first | (refine Hd.yv (y_field' (q := 5) (ft := 34) Try.underlying36 rfl sz34 rfl rfl) ?_) | (refine Hd.yv (y_fieldR (q := 5) (ft := 34) Try.underlying36 rfl sz34 rfl rfl) ?_)
        first | (refine Hd.yv (y_load1 ag34 rfl (Rd.pt1 pkk (by (first | exact flat_cells encO 6 (fun _ => rfl) ho 2 _ rfl | exact flat_cells encO 6 (fun _ => rfl) ho 5 _ rfl | rfl)))) ?_) | (refine Hd.yv (y_load1 ag34 rfl (Rd.seg1 pkk (by (first | exact flat_cells encO 6 (fun _ => rfl) ho 2 _ rfl | exact flat_cells encO 6 (fun _ => rfl) ho 5 _ rfl | rfl)))) ?_) | (refine Hd.yv (y_loadR1 ag34 rfl (by (first | exact RdS.own pkk | exact RdS.mono hR (Ent.sep enn))) (by (first | exact flat_cells encO 6 (fun _ => rfl) ho 2 _ rfl | exact flat_cells encO 6 (fun _ => rfl) ho 5 _ rfl | rfl))) ?_)
        refine Hd.yv (y_gtr rfl rfl) ?_
        refine Hd.nil ?_
        refine Hd.slots [(0, _), (3, _), (9, _), (10, _), (25, _)] ⟨rfl, rfl, rfl, rfl, rfl, trivial⟩ ?_
        refine Hd.toK hK15 ?_
        refine Hd.cond rfl (fun hc3 => ?_) (fun hc3 => ?_)
        ·
          try simp only [decide_eq_true_eq, decide_eq_false_iff_not, Bool.and_eq_true, Bool.or_eq_true, Bool.and_eq_false_iff, Bool.or_eq_false_iff, Bool.not_eq_true', Bool.not_eq_false', Bool.not_eq_true, Bool.not_eq_false, Int.not_lt, Int.not_le, Decidable.not_not, ne_eq] at hc3
          refine Hd.region ?_
          refine Hd.yv (y_move rfl) ?_
          first | (refine Hd.yv (y_addn rfl rfl (by simp only [InK]; omega)) ?_) | (refine Hd.yv (y_add rfl rfl) ?_)
          refine Hd.yv (y_assign rfl) ?_
          refine Hd.nil ?_
          refine Hd.slots [(0, _), (3, _), (9, _), (10, _)] ⟨rfl, rfl, rfl, rfl, trivial⟩ ?_
          refine Hd.inB ?_
          refine Hd.toK hK10 ?_
          refine Hd.region ?_
          first | (refine Hd.yv (y_addn rfl rfl (by simp only [InK]; omega)) ?_) | (refine Hd.yv (y_add rfl rfl) ?_)
          refine Hd.yv (y_move rfl) ?_
          refine Hd.nil ?_
          refine Hd.slots [(0, _), (3, _), (9, _), (10, _)] ⟨rfl, rfl, rfl, rfl, trivial⟩ ?_
          clear hK1 hK2 hK3 hK5 hK6 hK7 hK8 hK9 hK10 hK11 hK12 hK13 hK15
          refine Hd.thenN ?_
          exact Hd.again (i + 1, many + 1) (by first | omega | (simp only; omega) | (simp; omega)) (by repeat (first | exact trivial | refine ⟨rfl, ?_⟩)) (Ent.sep (.pure ⟨hi, by omega, hall⟩ enn))
        ·
          try simp only [decide_eq_true_eq, decide_eq_false_iff_not, Bool.and_eq_true, Bool.or_eq_true, Bool.and_eq_false_iff, Bool.or_eq_false_iff, Bool.not_eq_true', Bool.not_eq_false', Bool.not_eq_true, Bool.not_eq_false, Int.not_lt, Int.not_le, Decidable.not_not, ne_eq] at hc3
          refine Hd.skip ?_
          refine Hd.inB ?_
          refine Hd.toK hK10 ?_
          refine Hd.region ?_
          first | (refine Hd.yv (y_addn rfl rfl (by simp only [InK]; omega)) ?_) | (refine Hd.yv (y_add rfl rfl) ?_)
          refine Hd.yv (y_move rfl) ?_
          refine Hd.nil ?_
          refine Hd.slots [(0, _), (3, _), (9, _), (10, _)] ⟨rfl, rfl, rfl, rfl, trivial⟩ ?_
          clear hK1 hK2 hK3 hK5 hK6 hK7 hK8 hK9 hK10 hK11 hK12 hK13 hK15
          refine Hd.thenN ?_
          exact Hd.again (i + 1, many) (by first | omega | (simp only; omega) | (simp; omega)) (by repeat (first | exact trivial | refine ⟨rfl, ?_⟩)) (Ent.sep (.pure ⟨hi, by omega, hall⟩ enn))
    ·
      try simp only [decide_eq_true_eq, decide_eq_false_iff_not, Bool.and_eq_true, Bool.or_eq_true, Bool.and_eq_false_iff, Bool.or_eq_false_iff, Bool.not_eq_true', Bool.not_eq_false', Bool.not_eq_true, Bool.not_eq_false, Int.not_lt, Int.not_le, Decidable.not_not, ne_eq] at hc1
      refine Hd.exit ?_
      refine Hd.thenExit ?_
      refine Hd.thenExit ?_
      refine Hd.inBexit ?_
      refine Hd.toK hK6 ?_
      refine Hd.seq (fun K16 hK16 => ?_)
      refine Hd.region ?_
      refine Hd.yv (y_move rfl) ?_
      refine Hd.yv (y_gtr rfl rfl) ?_
      refine Hd.yv (y_assign rfl) ?_
      refine Hd.nil ?_
      refine Hd.slots [(2, _)] ⟨rfl, trivial⟩ ?_
      refine Hd.toK hK16 ?_
      refine Hd.ret ?_
      clear hK1 hK2 hK3 hK5 hK6 hK7 hK8 hK9 hK16
      exact Hd.ret1 rfl _ rfl (Ent.sep (.pure (fun _ => ⟨hx, fun o ho => hp0.2.2 o (by rw [List.take_of_length_le (by omega)]; exact ho)⟩) enn))
set_option maxHeartbeats 2000000 in
theorem moveSelf_ct (L : List SP) (b o : Nat) (n : Int) : Ct Try.prog 24 #[.pointer (some ⟨b, o, none⟩), .pointer (some ⟨b, o, none⟩), .int .i64 n] (L) (fun _ : Unit => .tuple #[.int .i64 0, .int .i64 2]) (fun _ : Unit => L) := by
  refine Ct.of (vs := [.pointer (some ⟨b, o, none⟩), .pointer (some ⟨b, o, none⟩), .int .i64 n]) Try.func24 rfl rfl [(0, .pointer (some ⟨b, o, none⟩)), (1, .pointer (some ⟨b, o, none⟩)), (2, .int .i64 n)] (by repeat (first | exact trivial | refine ⟨rfl, ?_⟩)) ?_
  intro E
  show Hd E 57 _ _ _ _
  refine Hd.seq (fun K1 hK1 => ?_)
  refine Hd.region ?_
  refine Hd.yv (y_assign rfl) ?_
  refine Hd.yv (y_assign rfl) ?_
  refine Hd.nil ?_
  refine Hd.slots [(0, _), (1, _), (2, _)] ⟨rfl, rfl, rfl, trivial⟩ ?_
  refine Hd.toK hK1 ?_
  refine Hd.seq (fun K2 hK2 => ?_)
  refine Hd.block ?_
  refine Hd.seq (fun K3 hK3 => ?_)
  refine Hd.region ?_
  refine Hd.yv (y_move rfl) ?_
  first | (refine Hd.yv (y_eql_pointer Try.underlying24 rfl rfl) ?_) | (refine Hd.yv (y_eql_one Try.underlying24 sz27 rfl rfl rfl) ?_)
  refine Hd.yv (y_move rfl) ?_
  refine Hd.yg rfl rfl (y_move rfl) ?_
  first | (refine Hd.yg rfl rfl (y_eql_pointer Try.underlying24 rfl rfl) ?_) | (refine Hd.yg rfl rfl (y_eql_one Try.underlying24 sz27 rfl rfl rfl) ?_)
  first | (refine Hd.yv (y_pickT rfl rfl) ?_) | (refine Hd.yv (y_pickF rfl rfl) ?_) | (refine Hd.yv (y_pickb rfl rfl rfl) ?_) | (refine Hd.yv (y_pick rfl rfl rfl) ?_)
  refine Hd.yv (y_assign rfl) ?_
  refine Hd.nil ?_
  refine Hd.slots [(0, _), (1, _), (2, _), (9, _)] ⟨rfl, rfl, rfl, rfl, trivial⟩ ?_
  refine Hd.toK hK3 ?_
  refine Hd.condF rfl ?_
  refine Hd.seq (fun K4 hK4 => ?_)
  refine Hd.region ?_
  refine Hd.yv (y_move rfl) ?_
  refine Hd.yv (y_move rfl) ?_
  first | (refine Hd.yv (y_eql_pointer Try.underlying24 rfl rfl) ?_) | (refine Hd.yv (y_eql_one Try.underlying24 sz27 rfl rfl rfl) ?_)
  refine Hd.yv (y_move rfl) ?_
  refine Hd.ng rfl rfl rfl ?_
  refine Hd.ng rfl rfl rfl ?_
  first | (refine Hd.yv (y_pickT rfl rfl) ?_) | (refine Hd.yv (y_pickF rfl rfl) ?_) | (refine Hd.yv (y_pickb rfl rfl rfl) ?_) | (refine Hd.yv (y_pick rfl rfl rfl) ?_)
  refine Hd.yv (y_assign rfl) ?_
  refine Hd.nil ?_
  refine Hd.slots [(0, _), (1, _), (2, _), (16, _)] ⟨rfl, rfl, rfl, rfl, trivial⟩ ?_
  refine Hd.toK hK4 ?_
  refine Hd.condT rfl ?_
  refine Hd.seq (fun K5 hK5 => ?_)
  refine Hd.region ?_
  refine Hd.yv (y_assign rfl) ?_
  refine Hd.yv (y_assign rfl) ?_
  refine Hd.nil ?_
  refine Hd.slots [(6, _), (7, _)] ⟨rfl, rfl, trivial⟩ ?_
  refine Hd.toK hK5 ?_
  refine Hd.ret ?_
  refine Hd.inBret ?_
  refine Hd.thenRet ?_
  clear hK1 hK2 hK3 hK4 hK5
  exact Hd.ret2 rfl () rfl rfl (by first | rfl | (simp only [*]; done) | (simp [*]; done)) (Ent.sep enn)
end Bc
end Go.Proofs.Ytgifpkpkkgkfeaa
