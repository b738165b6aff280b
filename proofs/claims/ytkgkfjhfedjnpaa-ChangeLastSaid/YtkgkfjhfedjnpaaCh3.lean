/-
  More contracts of package change's List: Flush; and of the document's List.
-/
import Derived.Test.YtkgkfjhfedjnpaaCh2
namespace Go.Proofs.Ytkgkfjhfedjnpaa
set_option linter.unusedSimpArgs false
set_option linter.unusedVariables false
set_option linter.unnecessarySimpa false
open Go.RX
namespace Cl
theorem LS.store_h (s : LS) (m : List Value) : (s.cs m).take (0 + 0) ++ s.w.map V ++ (s.cs m).drop (0 + 0 + (s.w.map V).length) = s.flush.cs m := by
  have h1 := s.hh; have h2 := s.hw
  unfold LS.cs LS.flush
  simp only [Nat.zero_add, List.take_zero, List.nil_append, List.length_map, h2]
  rw [List.drop_append, List.drop_of_length_le (by simp; omega)]
  simp [h1]
theorem flush_ct (L : List SP) (b : Nat) (s : LS) : Ct Try.prog 20 #[.pointer (some ⟨b, 0, none⟩)] (CLs b s true :: L)
    (fun i : Option Addr × Nat => .slice i.1 (s.chs 96).length i.2) (fun i => own 27 3 i.1 (s.chs 96).length i.2 ((s.chs 96).flatMap encC) :: CLs b s.flush true :: L) := by
  refine Ct.of (vs := [.pointer (some ⟨b, 0, none⟩)]) Try.func20 rfl rfl [(0, .pointer (some ⟨b, 0, none⟩))] ⟨rfl, trivial⟩ ?_
  intro E
  show Hd E 17 _ _ _ _
  refine Hd.seq (fun K1 hK1 => ?_)
  refine Hd.region ?_
  refine Hd.yv (y_assign rfl) ?_
  refine Hd.nil ?_
  refine Hd.slots [(0, _)] ⟨rfl, trivial⟩ ?_
  refine Hd.toK hK1 ?_
  refine Hd.seq (fun K2 hK2 => ?_)
  refine Hd.region ?_
  refine Hd.yv (y_move rfl) ?_
  refine Hd.callE rfl fk22 (changes_ct _ b s) (Ent.sep (by repeat (first | with_reducible exact Ent.same | exact Ent.nil | with_reducible exact Ent.left | (apply Ent.pick; focus ((repeat (first | with_reducible exact Pick.here | apply Pick.there | with_reducible apply Pick.right)); done)) | refine Ent.pure (by assumption) ?_ | apply Ent.ownNil | with_reducible apply Ent.right | exact Ent.left | exact Ent.same | refine Ent.skip ?_))) ?_
  rintro ⟨ad, cap⟩
  refine Hd.yv (y_assign rfl) ?_
  refine Hd.nil ?_
  refine Hd.slots [(0, _), (3, _)] ⟨rfl, rfl, trivial⟩ ?_
  refine Hd.toK hK2 ?_
  refine Hd.seq (fun K3 hK3 => ?_)
  refine Hd.seq (fun K4 hK4 => ?_)
  refine Hd.region ?_
  refine Hd.yv (y_move rfl) ?_
  refine Hd.callE rfl fk34 (none_ct _ b s true) (Ent.sep (by repeat (first | with_reducible exact Ent.same | exact Ent.nil | with_reducible exact Ent.left | (apply Ent.pick; focus ((repeat (first | with_reducible exact Pick.here | apply Pick.there | with_reducible apply Pick.right)); done)) | refine Ent.pure (by assumption) ?_ | apply Ent.ownNil | with_reducible apply Ent.right | exact Ent.left | exact Ent.same | refine Ent.skip ?_))) ?_
  intro _
  refine Hd.yv (y_not rfl) ?_
  refine Hd.nil ?_
  refine Hd.slots [(0, _), (3, _), (8, _)] ⟨rfl, rfl, rfl, trivial⟩ ?_
  refine Hd.toK hK4 ?_
  refine Hd.condT rfl ?_
  refine Hd.region ?_
  refine Hd.yv (y_move rfl) ?_
  refine Hd.yv (y_move rfl) ?_
  refine Hd.yv (y_nilp rfl) ?_
  first | (refine Hd.yv (y_field' (q := 96) (ft := 47) Try.underlying60 rfl sz47 rfl rfl) ?_) | (refine Hd.yv (y_fieldR (q := 96) (ft := 47) Try.underlying60 rfl sz47 rfl rfl) ?_)
  refine Hd.yv (y_loadn (us := s.w.map V) ag47 rfl (Rd.pt (by repeat (first | with_reducible exact Pick.here | apply Pick.there | with_reducible apply Pick.right)) (s.arr_w _)) (by rw [List.length_map, s.hw]; exact sz47)) ?_
  refine Hd.yv (y_nilp rfl) ?_
  first | (refine Hd.yv (y_field' (q := 0) (ft := 47) Try.underlying60 rfl sz47 rfl rfl) ?_) | (refine Hd.yv (y_fieldR (q := 0) (ft := 47) Try.underlying60 rfl sz47 rfl rfl) ?_)
  refine Hd.store (us := s.w.map V) (by rw [List.length_map, s.hw]; exact sz47) rfl rfl rfl (by simp [Value.oneCell']) (by repeat (first | with_reducible exact Pick.here | apply Pick.there | with_reducible apply Pick.right)) (by rw [LS.cs_len, List.length_map, s.hw]; simp) ?_
  rw [s.store_h]
  refine Hd.nil ?_
  refine Hd.slots [(3, _)] ⟨rfl, trivial⟩ ?_
  refine Hd.toK hK3 ?_
  refine Hd.seq (fun K5 hK5 => ?_)
  refine Hd.region ?_
  refine Hd.yv (y_move rfl) ?_
  refine Hd.yv (y_assign rfl) ?_
  refine Hd.nil ?_
  refine Hd.slots [(2, _)] ⟨rfl, trivial⟩ ?_
  refine Hd.toK hK5 ?_
  refine Hd.ret ?_
  clear hK1 hK2 hK3 hK4 hK5
  exact Hd.ret1 rfl (ad, cap) rfl (Ent.sep (by repeat (first | with_reducible exact Ent.same | exact Ent.nil | with_reducible exact Ent.left | (apply Ent.pick; focus ((repeat (first | with_reducible exact Pick.here | apply Pick.there | with_reducible apply Pick.right)); done)) | refine Ent.pure (by assumption) ?_ | apply Ent.ownNil | with_reducible apply Ent.right | exact Ent.left | exact Ent.same | refine Ent.skip ?_)))

/-! the document's -/
abbrev RLs (b : Nat) (s : LS) : SP := pt b (s.cs []) 51
theorem LS.cs_len0 (s : LS) : (s.cs []).length = 192 := by rw [s.cs_len]; rfl
theorem land_max (v : BitVec 64) : (v &&& 38#64).toNat ≤ 38 := by rw [BitVec.toNat_and]; exact Nat.and_le_right
theorem may_le {x : Int} (hx : InK .i64 x) (h : bits .andNot .i64 x 38 = 0) : 0 ≤ x ∧ x ≤ 38 := by
  rw [bits_andNot_zero] at h
  have e : bv x = bv x &&& bv 38 := by
    apply BitVec.eq_of_getLsbD_eq
    intro i hi
    have := congrArg (fun v => BitVec.getLsbD v i) h
    simp only [BitVec.getLsbD_and, BitVec.getLsbD_not, hi, decide_true, Bool.true_and, BitVec.getLsbD_zero] at this
    rw [BitVec.getLsbD_and]
    cases h1 : (bv x).getLsbD i <;> cases h2 : (bv 38).getLsbD i <;> simp_all
  have h1 : (bv x).toNat ≤ 38 := by rw [e]; exact land_max _
  simp only [InK] at hx
  unfold bv at h1
  rw [BitVec.toNat_ofInt] at h1
  omega
def mayR (x : Int) : Bool := if x < 0 ∨ 38 < x then false else if hasB x 1 || hasB x 8 || hasB x 16 then false else decide (x = 0) || hasB x 2 || hasB x 4
theorem mayR_tab : ∀ k : Nat, k < 39 → mayR (k : Int) = mayB (k : Int) := by decide
theorem mayR_eq {x : Int} (hx : InK .i64 x) : mayR x = mayB x := by
  by_cases h : 0 ≤ x ∧ x ≤ 38
  · have := mayR_tab x.toNat (by omega)
    rwa [Int.toNat_of_nonneg h.1] at this
  · have h1 : mayR x = false := by unfold mayR; rw [if_pos (by omega)]
    have h2 : mayB x = false := by
      unfold mayB
      rw [decide_eq_false (fun e => h (may_le hx e))]; rfl
    rw [h1, h2]
def bit3 (k : Nat) : Int := if k = 0 then 1 else if k = 1 then 8 else 16
theorem bit3_at {k : Nat} (h : k < 3) : ([.int .i64 1, .int .i64 8, .int .i64 16] : List Value)[0 + k * 1]? = some (.int .i64 (bit3 k)) := by
  rcases k with _ | _ | _ | k
  · rfl
  · rfl
  · rfl
  · omega
theorem rmay_ct (L : List SP) (x : Int) : Ct Try.prog 31 #[.int .i64 x] L (fun _ : Unit => .bool (mayR x)) (fun _ => L) := by
  refine Ct.of (vs := [.int .i64 x]) Try.func31 rfl rfl [(0, .int .i64 x)] ⟨rfl, trivial⟩ ?_
  intro E
  show Hd E 37 _ _ _ _
  refine Hd.seq (fun K1 hK1 => ?_)
  refine Hd.region ?_
  refine Hd.yv (y_assign rfl) ?_
  refine Hd.nil ?_
  refine Hd.slots [(0, _)] ⟨rfl, trivial⟩ ?_
  refine Hd.toK hK1 ?_
  refine Hd.seq (fun K2 hK2 => ?_)
  refine Hd.seq (fun K3 hK3 => ?_)
  refine Hd.region ?_
  refine Hd.yv (y_move rfl) ?_
  refine Hd.yv (y_lss rfl rfl) ?_
  refine Hd.yv (y_move rfl) ?_
  apply Hd.org 3 10 13 [(0, _)] rfl ⟨rfl, trivial⟩
  · intro hg1_10
    try simp only [decide_eq_true_eq, decide_eq_false_iff_not, Bool.and_eq_true, Bool.or_eq_true, Bool.and_eq_false_iff, Bool.or_eq_false_iff, Bool.not_eq_true', Bool.not_eq_false', Bool.not_eq_true, Bool.not_eq_false, Int.not_lt, Int.not_le, Decidable.not_not, ne_eq] at hg1_10
    simp only [List.take]
    refine Hd.ng rfl rfl rfl ?_
    refine Hd.ng rfl rfl rfl ?_
    first | (refine Hd.yv (y_pickT rfl rfl) ?_) | (refine Hd.yv (y_pickF rfl rfl) ?_) | (refine Hd.yv (y_pickb rfl rfl rfl) ?_) | (refine Hd.yv (y_pick rfl rfl rfl) ?_)
    refine Hd.nil ?_
    exact Hd.mend (by repeat (first | exact trivial | refine ⟨rfl, ?_⟩)) (Ent.sep (by repeat (first | with_reducible exact Ent.same | exact Ent.nil | with_reducible exact Ent.left | (apply Ent.pick; focus ((repeat (first | with_reducible exact Pick.here | apply Pick.there | with_reducible apply Pick.right)); done)) | refine Ent.pure (by assumption) ?_ | apply Ent.ownNil | with_reducible apply Ent.right | exact Ent.left | exact Ent.same | refine Ent.skip ?_)))
  · intro hg1_10
    try simp only [decide_eq_true_eq, decide_eq_false_iff_not, Bool.and_eq_true, Bool.or_eq_true, Bool.and_eq_false_iff, Bool.or_eq_false_iff, Bool.not_eq_true', Bool.not_eq_false', Bool.not_eq_true, Bool.not_eq_false, Int.not_lt, Int.not_le, Decidable.not_not, ne_eq] at hg1_10
    simp only [List.take]
    refine Hd.yg rfl rfl (y_move rfl) ?_
    refine Hd.yg rfl rfl (y_gtr rfl rfl) ?_
    first | (refine Hd.yv (y_pickT rfl rfl) ?_) | (refine Hd.yv (y_pickF rfl rfl) ?_) | (refine Hd.yv (y_pickb rfl rfl rfl) ?_) | (refine Hd.yv (y_pick rfl rfl rfl) ?_)
    refine Hd.nil ?_
    exact Hd.mend (by repeat (first | exact trivial | refine ⟨rfl, ?_⟩)) (Ent.sep (by repeat (first | with_reducible exact Ent.same | exact Ent.nil | with_reducible exact Ent.left | (apply Ent.pick; focus ((repeat (first | with_reducible exact Pick.here | apply Pick.there | with_reducible apply Pick.right)); done)) | refine Ent.pure (by assumption) ?_ | apply Ent.ownNil | with_reducible apply Ent.right | exact Ent.left | exact Ent.same | refine Ent.skip ?_)))
  simp only [List.drop]
  refine Hd.nil ?_
  refine Hd.slots [(0, _), (13, _)] ⟨rfl, rfl, trivial⟩ ?_
  refine Hd.toK hK3 ?_
  refine Hd.cond rfl (fun hc0 => ?_) (fun hc0 => ?_)
  ·
    try simp only [decide_eq_true_eq, decide_eq_false_iff_not, Bool.and_eq_true, Bool.or_eq_true, Bool.and_eq_false_iff, Bool.or_eq_false_iff, Bool.not_eq_true', Bool.not_eq_false', Bool.not_eq_true, Bool.not_eq_false, Int.not_lt, Int.not_le, Decidable.not_not, ne_eq] at hc0
    refine Hd.seq (fun K4 hK4 => ?_)
    refine Hd.region ?_
    refine Hd.yv (y_assign rfl) ?_
    refine Hd.nil ?_
    refine Hd.slots [(2, _)] ⟨rfl, trivial⟩ ?_
    refine Hd.toK hK4 ?_
    refine Hd.ret ?_
    refine Hd.thenRet ?_
    clear hK1 hK2 hK3 hK4
    exact Hd.ret1 rfl () (by unfold mayR; rw [if_pos (by omega)]; rfl) (Ent.sep (by repeat (first | with_reducible exact Ent.same | exact Ent.nil | with_reducible exact Ent.left | (apply Ent.pick; focus ((repeat (first | with_reducible exact Pick.here | apply Pick.there | with_reducible apply Pick.right)); done)) | refine Ent.pure (by assumption) ?_ | apply Ent.ownNil | with_reducible apply Ent.right | exact Ent.left | exact Ent.same | refine Ent.skip ?_)))
  ·
    try simp only [decide_eq_true_eq, decide_eq_false_iff_not, Bool.and_eq_true, Bool.or_eq_true, Bool.and_eq_false_iff, Bool.or_eq_false_iff, Bool.not_eq_true', Bool.not_eq_false', Bool.not_eq_true, Bool.not_eq_false, Int.not_lt, Int.not_le, Decidable.not_not, ne_eq] at hc0
    refine Hd.skip ?_
    refine Hd.toK hK2 ?_
    refine Hd.seq (fun K5 hK5 => ?_)
    refine Hd.seq (fun K6 hK6 => ?_)
    refine Hd.region ?_
    refine Hd.bslice (vs := [(0, _), (1, _), (2, _)]) rfl (by first | exact bs31_14 .. | kernel_rfl) (fun b14 => ?_)
    refine Hd.yv (y_len Try.underlying22 rfl) ?_
    refine Hd.yv (y_move rfl) ?_
    refine Hd.nil ?_
    refine Hd.slots [(0, _), (14, _), (15, _), (16, _)] ⟨rfl, rfl, rfl, rfl, trivial⟩ ?_
    refine Hd.toK hK6 ?_
    refine Hd.block ?_
    refine Hd.loop (ι := Nat) (fun k => [(0, .int .i64 x), (14, .slice (some ⟨b14, 0, none⟩) 3 3), (15, .int .i64 3), (16, .int .i64 (k : Int))])
      (fun k => pu (k ≤ 3 ∧ ∀ j, j < k → hasB x (bit3 j) = false) :: pt b14 [.int .i64 1, .int .i64 8, .int .i64 16] 3 :: L) (fun k => 3 - k) 0 ⟨rfl, rfl, rfl, rfl, trivial⟩ (Ent.sep (.pure ⟨by omega, fun j hj => by omega⟩ (by repeat (first | with_reducible exact Ent.same | exact Ent.nil | with_reducible exact Ent.left | (apply Ent.pick; focus ((repeat (first | with_reducible exact Pick.here | apply Pick.there | with_reducible apply Pick.right)); done)) | refine Ent.pure (by assumption) ?_ | apply Ent.ownNil | with_reducible apply Ent.right | exact Ent.left | exact Ent.same | refine Ent.skip ?_)))) ?_
    intro k
    refine Hd.pure (fun hk => ?_)
    refine Hd.seq (fun K7 hK7 => ?_)
    refine Hd.region ?_
    refine Hd.yv (y_lss rfl rfl) ?_
    refine Hd.nil ?_
    refine Hd.slots [(0, _), (14, _), (15, _), (16, _), (17, _)] ⟨rfl, rfl, rfl, rfl, rfl, trivial⟩ ?_
    refine Hd.toK hK7 ?_
    refine Hd.seq (fun K8 hK8 => ?_)
    refine Hd.cond rfl (fun hc1 => ?_) (fun hc1 => ?_)
    ·
      try simp only [decide_eq_true_eq, decide_eq_false_iff_not, Bool.and_eq_true, Bool.or_eq_true, Bool.and_eq_false_iff, Bool.or_eq_false_iff, Bool.not_eq_true', Bool.not_eq_false', Bool.not_eq_true, Bool.not_eq_false, Int.not_lt, Int.not_le, Decidable.not_not, ne_eq] at hc1
      have hk3 : k < 3 := by omega
      refine Hd.skip ?_
      refine Hd.toK hK8 ?_
      refine Hd.seq (fun K9 hK9 => ?_)
      refine Hd.block ?_
      refine Hd.seq (fun K10 hK10 => ?_)
      refine Hd.region ?_
      first | (refine Hd.yv (y_idxS Try.underlying22 sz3 rfl rfl (by first | omega | decide)) ?_) | (refine Hd.yv (y_idxR Try.underlying22 sz3 rfl rfl (by first | omega | decide) (by (first | exact RdS.own (by repeat (first | with_reducible exact Pick.here | apply Pick.there | with_reducible apply Pick.right))))) ?_)
      first | (refine Hd.yv (y_load1 ag3 rfl (Rd.pt1 (by repeat (first | with_reducible exact Pick.here | apply Pick.there | with_reducible apply Pick.right)) (by (first | exact bit3_at hk3 | rfl)))) ?_) | (refine Hd.yv (y_load1 ag3 rfl (Rd.seg1 (by repeat (first | with_reducible exact Pick.here | apply Pick.there | with_reducible apply Pick.right)) (by (first | exact bit3_at hk3 | rfl)))) ?_) | (refine Hd.yv (y_loadR1 ag3 rfl (by (first | exact RdS.own (by repeat (first | with_reducible exact Pick.here | apply Pick.there | with_reducible apply Pick.right)))) (by (first | exact bit3_at hk3 | rfl))) ?_)
      refine Hd.yv (y_assign rfl) ?_
      refine Hd.nil ?_
      refine Hd.slots [(0, _), (4, _), (14, _), (15, _), (16, _)] ⟨rfl, rfl, rfl, rfl, rfl, trivial⟩ ?_
      refine Hd.toK hK10 ?_
      refine Hd.seq (fun K11 hK11 => ?_)
      refine Hd.region ?_
      refine Hd.yv (y_move rfl) ?_
      refine Hd.yv (y_move rfl) ?_
      refine Hd.callE rfl fk33 (has_ct _ _ _) (Ent.sep (by repeat (first | with_reducible exact Ent.same | exact Ent.nil | with_reducible exact Ent.left | (apply Ent.pick; focus ((repeat (first | with_reducible exact Pick.here | apply Pick.there | with_reducible apply Pick.right)); done)) | refine Ent.pure (by assumption) ?_ | apply Ent.ownNil | with_reducible apply Ent.right | exact Ent.left | exact Ent.same | refine Ent.skip ?_))) ?_
      intro _
      refine Hd.yv (y_assign rfl) ?_
      refine Hd.nil ?_
      refine Hd.slots [(0, _), (5, _), (14, _), (15, _), (16, _)] ⟨rfl, rfl, rfl, rfl, rfl, trivial⟩ ?_
      refine Hd.toK hK11 ?_
      refine Hd.seq (fun K12 hK12 => ?_)
      refine Hd.region ?_
      refine Hd.yv (y_move rfl) ?_
      refine Hd.nil ?_
      refine Hd.slots [(0, _), (14, _), (15, _), (16, _), (23, _)] ⟨rfl, rfl, rfl, rfl, rfl, trivial⟩ ?_
      refine Hd.toK hK12 ?_
      refine Hd.cond rfl (fun hc2 => ?_) (fun hc2 => ?_)
      ·
        try simp only [decide_eq_true_eq, decide_eq_false_iff_not, Bool.and_eq_true, Bool.or_eq_true, Bool.and_eq_false_iff, Bool.or_eq_false_iff, Bool.not_eq_true', Bool.not_eq_false', Bool.not_eq_true, Bool.not_eq_false, Int.not_lt, Int.not_le, Decidable.not_not, ne_eq] at hc2
        refine Hd.seq (fun K13 hK13 => ?_)
        refine Hd.region ?_
        refine Hd.yv (y_assign rfl) ?_
        refine Hd.nil ?_
        refine Hd.slots [(2, _)] ⟨rfl, trivial⟩ ?_
        refine Hd.toK hK13 ?_
        refine Hd.ret ?_
        refine Hd.inBret ?_
        refine Hd.thenRet ?_
        refine Hd.thenRet ?_
        refine Hd.inBret ?_
        refine Hd.thenRet ?_
        clear hK1 hK2 hK3 hK5 hK6 hK7 hK8 hK9 hK10 hK11 hK12 hK13
        refine Hd.ret1 rfl () ?_ (Ent.sep (by repeat (first | with_reducible exact Ent.same | exact Ent.nil | with_reducible exact Ent.left | (apply Ent.pick; focus ((repeat (first | with_reducible exact Pick.here | apply Pick.there | with_reducible apply Pick.right)); done)) | refine Ent.pure (by assumption) ?_ | apply Ent.ownNil | with_reducible apply Ent.right | exact Ent.left | exact Ent.same | refine Ent.skip ?_)))
        unfold mayR
        rw [if_neg (by omega)]
        have : (hasB x 1 || hasB x 8 || hasB x 16) = true := by
          rcases k with _ | _ | _ | k
          · simp [show hasB x 1 = true from hc2]
          · simp [show hasB x 8 = true from hc2]
          · simp [show hasB x 16 = true from hc2]
          · omega
        rw [this]; rfl
      ·
        try simp only [decide_eq_true_eq, decide_eq_false_iff_not, Bool.and_eq_true, Bool.or_eq_true, Bool.and_eq_false_iff, Bool.or_eq_false_iff, Bool.not_eq_true', Bool.not_eq_false', Bool.not_eq_true, Bool.not_eq_false, Int.not_lt, Int.not_le, Decidable.not_not, ne_eq] at hc2
        refine Hd.skip ?_
        refine Hd.inB ?_
        refine Hd.toK hK9 ?_
        refine Hd.region ?_
        first | (refine Hd.yv (y_addn rfl rfl (by simp only [InK]; omega)) ?_) | (refine Hd.yv (y_add rfl rfl) ?_)
        refine Hd.yv (y_move rfl) ?_
        refine Hd.nil ?_
        refine Hd.slots [(0, _), (14, _), (15, _), (16, _)] ⟨rfl, rfl, rfl, rfl, trivial⟩ ?_
        clear hK1 hK2 hK3 hK5 hK6 hK7 hK8 hK9 hK10 hK11 hK12
        refine Hd.thenN ?_
        refine Hd.again (k + 1) (by omega) ⟨rfl, rfl, rfl, rfl, trivial⟩ (Ent.sep (.pure ⟨by omega, fun j hj => ?_⟩ (by repeat (first | with_reducible exact Ent.same | exact Ent.nil | with_reducible exact Ent.left | (apply Ent.pick; focus ((repeat (first | with_reducible exact Pick.here | apply Pick.there | with_reducible apply Pick.right)); done)) | refine Ent.pure (by assumption) ?_ | apply Ent.ownNil | with_reducible apply Ent.right | exact Ent.left | exact Ent.same | refine Ent.skip ?_))))
        rcases Nat.lt_succ_iff_lt_or_eq.1 hj with h | h
        · exact hk.2 j h
        · subst h; exact hc2
    ·
      try simp only [decide_eq_true_eq, decide_eq_false_iff_not, Bool.and_eq_true, Bool.or_eq_true, Bool.and_eq_false_iff, Bool.or_eq_false_iff, Bool.not_eq_true', Bool.not_eq_false', Bool.not_eq_true, Bool.not_eq_false, Int.not_lt, Int.not_le, Decidable.not_not, ne_eq] at hc1
      refine Hd.exit ?_
      refine Hd.thenExit ?_
      refine Hd.thenExit ?_
      refine Hd.inBexit ?_
      refine Hd.toK hK5 ?_
      refine Hd.seq (fun K14 hK14 => ?_)
      refine Hd.region ?_
      refine Hd.yv (y_move rfl) ?_
      refine Hd.callE rfl fk33 (has_ct _ _ _) (Ent.sep (by repeat (first | with_reducible exact Ent.same | exact Ent.nil | with_reducible exact Ent.left | (apply Ent.pick; focus ((repeat (first | with_reducible exact Pick.here | apply Pick.there | with_reducible apply Pick.right)); done)) | refine Ent.pure (by assumption) ?_ | apply Ent.ownNil | with_reducible apply Ent.right | exact Ent.left | exact Ent.same | refine Ent.skip ?_))) ?_
      intro _
      refine Hd.yv (y_assign rfl) ?_
      refine Hd.nil ?_
      refine Hd.slots [(0, _), (6, _)] ⟨rfl, rfl, trivial⟩ ?_
      refine Hd.toK hK14 ?_
      refine Hd.seq (fun K15 hK15 => ?_)
      refine Hd.region ?_
      refine Hd.yv (y_move rfl) ?_
      refine Hd.callE rfl fk33 (has_ct _ _ _) (Ent.sep (by repeat (first | with_reducible exact Ent.same | exact Ent.nil | with_reducible exact Ent.left | (apply Ent.pick; focus ((repeat (first | with_reducible exact Pick.here | apply Pick.there | with_reducible apply Pick.right)); done)) | refine Ent.pure (by assumption) ?_ | apply Ent.ownNil | with_reducible apply Ent.right | exact Ent.left | exact Ent.same | refine Ent.skip ?_))) ?_
      intro _
      refine Hd.yv (y_assign rfl) ?_
      refine Hd.nil ?_
      refine Hd.slots [(0, _), (6, _), (7, _)] ⟨rfl, rfl, rfl, trivial⟩ ?_
      refine Hd.toK hK15 ?_
      refine Hd.seq (fun K16 hK16 => ?_)
      refine Hd.region ?_
      refine Hd.yv (y_move rfl) ?_
      first | (refine Hd.yv (y_eqlT rfl rfl) ?_) | (refine Hd.yv (y_eql rfl rfl) ?_)
      refine Hd.yv (y_move rfl) ?_
      apply Hd.org 2 31 33 [(7, _)] rfl ⟨rfl, trivial⟩
      · intro hg12_31
        try simp only [decide_eq_true_eq, decide_eq_false_iff_not, Bool.and_eq_true, Bool.or_eq_true, Bool.and_eq_false_iff, Bool.or_eq_false_iff, Bool.not_eq_true', Bool.not_eq_false', Bool.not_eq_true, Bool.not_eq_false, Int.not_lt, Int.not_le, Decidable.not_not, ne_eq] at hg12_31
        simp only [List.take]
        refine Hd.ng rfl rfl rfl ?_
        first | (refine Hd.yv (y_pickT rfl rfl) ?_) | (refine Hd.yv (y_pickF rfl rfl) ?_) | (refine Hd.yv (y_pickb rfl rfl rfl) ?_) | (refine Hd.yv (y_pick rfl rfl rfl) ?_)
        refine Hd.nil ?_
        exact Hd.mend (by repeat (first | exact trivial | refine ⟨rfl, ?_⟩)) (Ent.sep (by repeat (first | with_reducible exact Ent.same | exact Ent.nil | with_reducible exact Ent.left | (apply Ent.pick; focus ((repeat (first | with_reducible exact Pick.here | apply Pick.there | with_reducible apply Pick.right)); done)) | refine Ent.pure (by assumption) ?_ | apply Ent.ownNil | with_reducible apply Ent.right | exact Ent.left | exact Ent.same | refine Ent.skip ?_)))
      · intro hg12_31
        try simp only [decide_eq_true_eq, decide_eq_false_iff_not, Bool.and_eq_true, Bool.or_eq_true, Bool.and_eq_false_iff, Bool.or_eq_false_iff, Bool.not_eq_true', Bool.not_eq_false', Bool.not_eq_true, Bool.not_eq_false, Int.not_lt, Int.not_le, Decidable.not_not, ne_eq] at hg12_31
        simp only [List.take]
        refine Hd.yg rfl rfl (y_move rfl) ?_
        first | (refine Hd.yv (y_pickT rfl rfl) ?_) | (refine Hd.yv (y_pickF rfl rfl) ?_) | (refine Hd.yv (y_pickb rfl rfl rfl) ?_) | (refine Hd.yv (y_pick rfl rfl rfl) ?_)
        refine Hd.nil ?_
        exact Hd.mend (by repeat (first | exact trivial | refine ⟨rfl, ?_⟩)) (Ent.sep (by repeat (first | with_reducible exact Ent.same | exact Ent.nil | with_reducible exact Ent.left | (apply Ent.pick; focus ((repeat (first | with_reducible exact Pick.here | apply Pick.there | with_reducible apply Pick.right)); done)) | refine Ent.pure (by assumption) ?_ | apply Ent.ownNil | with_reducible apply Ent.right | exact Ent.left | exact Ent.same | refine Ent.skip ?_)))
      simp only [List.drop]
      refine Hd.yv (y_move rfl) ?_
      apply Hd.org 2 34 36 [] rfl trivial
      · intro hg12_34
        try simp only [decide_eq_true_eq, decide_eq_false_iff_not, Bool.and_eq_true, Bool.or_eq_true, Bool.and_eq_false_iff, Bool.or_eq_false_iff, Bool.not_eq_true', Bool.not_eq_false', Bool.not_eq_true, Bool.not_eq_false, Int.not_lt, Int.not_le, Decidable.not_not, ne_eq] at hg12_34
        simp only [List.take]
        refine Hd.ng rfl rfl rfl ?_
        first | (refine Hd.yv (y_pickT rfl rfl) ?_) | (refine Hd.yv (y_pickF rfl rfl) ?_) | (refine Hd.yv (y_pickb rfl rfl rfl) ?_) | (refine Hd.yv (y_pick rfl rfl rfl) ?_)
        refine Hd.nil ?_
        exact Hd.mend (by repeat (first | exact trivial | refine ⟨rfl, ?_⟩)) (Ent.sep (by repeat (first | with_reducible exact Ent.same | exact Ent.nil | with_reducible exact Ent.left | (apply Ent.pick; focus ((repeat (first | with_reducible exact Pick.here | apply Pick.there | with_reducible apply Pick.right)); done)) | refine Ent.pure (by assumption) ?_ | apply Ent.ownNil | with_reducible apply Ent.right | exact Ent.left | exact Ent.same | refine Ent.skip ?_)))
      · intro hg12_34
        try simp only [decide_eq_true_eq, decide_eq_false_iff_not, Bool.and_eq_true, Bool.or_eq_true, Bool.and_eq_false_iff, Bool.or_eq_false_iff, Bool.not_eq_true', Bool.not_eq_false', Bool.not_eq_true, Bool.not_eq_false, Int.not_lt, Int.not_le, Decidable.not_not, ne_eq] at hg12_34
        simp only [List.take]
        refine Hd.yg rfl rfl (y_move rfl) ?_
        first | (refine Hd.yv (y_pickT rfl rfl) ?_) | (refine Hd.yv (y_pickF rfl rfl) ?_) | (refine Hd.yv (y_pickb rfl rfl rfl) ?_) | (refine Hd.yv (y_pick rfl rfl rfl) ?_)
        refine Hd.nil ?_
        exact Hd.mend (by repeat (first | exact trivial | refine ⟨rfl, ?_⟩)) (Ent.sep (by repeat (first | with_reducible exact Ent.same | exact Ent.nil | with_reducible exact Ent.left | (apply Ent.pick; focus ((repeat (first | with_reducible exact Pick.here | apply Pick.there | with_reducible apply Pick.right)); done)) | refine Ent.pure (by assumption) ?_ | apply Ent.ownNil | with_reducible apply Ent.right | exact Ent.left | exact Ent.same | refine Ent.skip ?_)))
      simp only [List.drop]
      refine Hd.yv (y_assign rfl) ?_
      refine Hd.nil ?_
      refine Hd.slots [(2, _)] ⟨rfl, trivial⟩ ?_
      refine Hd.toK hK16 ?_
      refine Hd.ret ?_
      clear hK1 hK2 hK3 hK5 hK6 hK7 hK8 hK14 hK15 hK16
      refine Hd.ret1 rfl () ?_ (Ent.sep (by repeat (first | with_reducible exact Ent.same | exact Ent.nil | with_reducible exact Ent.left | (apply Ent.pick; focus ((repeat (first | with_reducible exact Pick.here | apply Pick.there | with_reducible apply Pick.right)); done)) | refine Ent.pure (by assumption) ?_ | apply Ent.ownNil | with_reducible apply Ent.right | exact Ent.left | exact Ent.same | refine Ent.skip ?_)))
      unfold mayR
      rw [if_neg (by omega)]
      have h1 : hasB x 1 = false := hk.2 0 (by omega)
      have h2 : hasB x 8 = false := hk.2 1 (by omega)
      have h3 : hasB x 16 = false := hk.2 2 (by omega)
      rw [h1, h2, h3]; rfl
theorem rwant_ct (L : List SP) (b : Nat) (s : LS) (fd x : Int) (hx : InK .i64 x) : Ct Try.prog 25 #[.pointer (some ⟨b, 0, none⟩), .int .i64 fd, .int .i64 x] (RLs b s :: L) (fun _ : Unit => .int .i64 (wantE fd x)) (fun _ => RLs b (s.want fd x) :: L) := by
  refine Ct.of (vs := [.pointer (some ⟨b, 0, none⟩), .int .i64 fd, .int .i64 x]) Try.func25 rfl rfl [(0, .pointer (some ⟨b, 0, none⟩)), (1, .int .i64 fd), (2, .int .i64 x)] ⟨rfl, rfl, rfl, trivial⟩ ?_
  intro E
  show Hd E 26 _ _ _ _
  refine Hd.seq (fun K1 hK1 => ?_)
  refine Hd.region ?_
  refine Hd.yv (y_assign rfl) ?_
  refine Hd.nil ?_
  refine Hd.slots [(0, _), (1, _), (2, _)] ⟨rfl, rfl, rfl, trivial⟩ ?_
  refine Hd.toK hK1 ?_
  refine Hd.seq (fun K2 hK2 => ?_)
  refine Hd.region ?_
  refine Hd.yv (y_move rfl) ?_
  refine Hd.callE rfl fk31 (rmay_ct _ x) (Ent.sep (by repeat (first | with_reducible exact Ent.same | exact Ent.nil | with_reducible exact Ent.left | (apply Ent.pick; focus ((repeat (first | with_reducible exact Pick.here | apply Pick.there | with_reducible apply Pick.right)); done)) | refine Ent.pure (by assumption) ?_ | apply Ent.ownNil | with_reducible apply Ent.right | exact Ent.left | exact Ent.same | refine Ent.skip ?_))) ?_
  intro _
  rw [mayR_eq hx]
  refine Hd.yv (y_assign rfl) ?_
  refine Hd.nil ?_
  refine Hd.slots [(0, _), (1, _), (2, _), (7, _)] ⟨rfl, rfl, rfl, rfl, trivial⟩ ?_
  refine Hd.toK hK2 ?_
  refine Hd.seq (fun K3 hK3 => ?_)
  refine Hd.seq (fun K4 hK4 => ?_)
  refine Hd.region ?_
  refine Hd.yv (y_move rfl) ?_
  refine Hd.yv (y_lss rfl rfl) ?_
  refine Hd.yv (y_move rfl) ?_
  apply Hd.org 3 12 15 [(0, _), (1, _), (2, _), (7, _)] rfl ⟨rfl, rfl, rfl, rfl, trivial⟩
  · intro hg2_12
    try simp only [decide_eq_true_eq, decide_eq_false_iff_not, Bool.and_eq_true, Bool.or_eq_true, Bool.and_eq_false_iff, Bool.or_eq_false_iff, Bool.not_eq_true', Bool.not_eq_false', Bool.not_eq_true, Bool.not_eq_false, Int.not_lt, Int.not_le, Decidable.not_not, ne_eq] at hg2_12
    simp only [List.take]
    refine Hd.ng rfl rfl rfl ?_
    refine Hd.ng rfl rfl rfl ?_
    first | (refine Hd.yv (y_pickT rfl rfl) ?_) | (refine Hd.yv (y_pickF rfl rfl) ?_) | (refine Hd.yv (y_pickb rfl rfl rfl) ?_) | (refine Hd.yv (y_pick rfl rfl rfl) ?_)
    refine Hd.nil ?_
    exact Hd.mend (by repeat (first | exact trivial | refine ⟨rfl, ?_⟩)) (Ent.sep (by repeat (first | with_reducible exact Ent.same | exact Ent.nil | with_reducible exact Ent.left | (apply Ent.pick; focus ((repeat (first | with_reducible exact Pick.here | apply Pick.there | with_reducible apply Pick.right)); done)) | refine Ent.pure (by assumption) ?_ | apply Ent.ownNil | with_reducible apply Ent.right | exact Ent.left | exact Ent.same | refine Ent.skip ?_)))
  · intro hg2_12
    try simp only [decide_eq_true_eq, decide_eq_false_iff_not, Bool.and_eq_true, Bool.or_eq_true, Bool.and_eq_false_iff, Bool.or_eq_false_iff, Bool.not_eq_true', Bool.not_eq_false', Bool.not_eq_true, Bool.not_eq_false, Int.not_lt, Int.not_le, Decidable.not_not, ne_eq] at hg2_12
    simp only [List.take]
    refine Hd.yg rfl rfl (y_move rfl) ?_
    refine Hd.yg rfl rfl (y_gtr rfl rfl) ?_
    first | (refine Hd.yv (y_pickT rfl rfl) ?_) | (refine Hd.yv (y_pickF rfl rfl) ?_) | (refine Hd.yv (y_pickb rfl rfl rfl) ?_) | (refine Hd.yv (y_pick rfl rfl rfl) ?_)
    refine Hd.nil ?_
    exact Hd.mend (by repeat (first | exact trivial | refine ⟨rfl, ?_⟩)) (Ent.sep (by repeat (first | with_reducible exact Ent.same | exact Ent.nil | with_reducible exact Ent.left | (apply Ent.pick; focus ((repeat (first | with_reducible exact Pick.here | apply Pick.there | with_reducible apply Pick.right)); done)) | refine Ent.pure (by assumption) ?_ | apply Ent.ownNil | with_reducible apply Ent.right | exact Ent.left | exact Ent.same | refine Ent.skip ?_)))
  simp only [List.drop]
  refine Hd.yv (y_move rfl) ?_
  apply Hd.org 3 16 19 [(0, _), (1, _), (2, _)] rfl ⟨rfl, rfl, rfl, trivial⟩
  · intro hg2_16
    try simp only [decide_eq_true_eq, decide_eq_false_iff_not, Bool.and_eq_true, Bool.or_eq_true, Bool.and_eq_false_iff, Bool.or_eq_false_iff, Bool.not_eq_true', Bool.not_eq_false', Bool.not_eq_true, Bool.not_eq_false, Int.not_lt, Int.not_le, Decidable.not_not, ne_eq] at hg2_16
    simp only [List.take]
    refine Hd.ng rfl rfl rfl ?_
    refine Hd.ng rfl rfl rfl ?_
    first | (refine Hd.yv (y_pickT rfl rfl) ?_) | (refine Hd.yv (y_pickF rfl rfl) ?_) | (refine Hd.yv (y_pickb rfl rfl rfl) ?_) | (refine Hd.yv (y_pick rfl rfl rfl) ?_)
    refine Hd.nil ?_
    exact Hd.mend (by repeat (first | exact trivial | refine ⟨rfl, ?_⟩)) (Ent.sep (by repeat (first | with_reducible exact Ent.same | exact Ent.nil | with_reducible exact Ent.left | (apply Ent.pick; focus ((repeat (first | with_reducible exact Pick.here | apply Pick.there | with_reducible apply Pick.right)); done)) | refine Ent.pure (by assumption) ?_ | apply Ent.ownNil | with_reducible apply Ent.right | exact Ent.left | exact Ent.same | refine Ent.skip ?_)))
  · intro hg2_16
    try simp only [decide_eq_true_eq, decide_eq_false_iff_not, Bool.and_eq_true, Bool.or_eq_true, Bool.and_eq_false_iff, Bool.or_eq_false_iff, Bool.not_eq_true', Bool.not_eq_false', Bool.not_eq_true, Bool.not_eq_false, Int.not_lt, Int.not_le, Decidable.not_not, ne_eq] at hg2_16
    simp only [List.take]
    refine Hd.yg rfl rfl (y_move rfl) ?_
    refine Hd.yg rfl rfl (y_not rfl) ?_
    first | (refine Hd.yv (y_pickT rfl rfl) ?_) | (refine Hd.yv (y_pickF rfl rfl) ?_) | (refine Hd.yv (y_pickb rfl rfl rfl) ?_) | (refine Hd.yv (y_pick rfl rfl rfl) ?_)
    refine Hd.nil ?_
    exact Hd.mend (by repeat (first | exact trivial | refine ⟨rfl, ?_⟩)) (Ent.sep (by repeat (first | with_reducible exact Ent.same | exact Ent.nil | with_reducible exact Ent.left | (apply Ent.pick; focus ((repeat (first | with_reducible exact Pick.here | apply Pick.there | with_reducible apply Pick.right)); done)) | refine Ent.pure (by assumption) ?_ | apply Ent.ownNil | with_reducible apply Ent.right | exact Ent.left | exact Ent.same | refine Ent.skip ?_)))
  simp only [List.drop]
  refine Hd.nil ?_
  refine Hd.slots [(0, _), (1, _), (2, _), (19, _)] ⟨rfl, rfl, rfl, rfl, trivial⟩ ?_
  refine Hd.toK hK4 ?_
  refine Hd.cond rfl (fun hc0 => ?_) (fun hc0 => ?_)
  ·
    try simp only [decide_eq_true_eq, decide_eq_false_iff_not, Bool.and_eq_true, Bool.or_eq_true, Bool.and_eq_false_iff, Bool.or_eq_false_iff, Bool.not_eq_true', Bool.not_eq_false', Bool.not_eq_true, Bool.not_eq_false, Int.not_lt, Int.not_le, Decidable.not_not, ne_eq] at hc0
    refine Hd.seq (fun K5 hK5 => ?_)
    refine Hd.region ?_
    refine Hd.yv (y_assign rfl) ?_
    refine Hd.nil ?_
    refine Hd.slots [(6, _)] ⟨rfl, trivial⟩ ?_
    refine Hd.toK hK5 ?_
    refine Hd.ret ?_
    refine Hd.thenRet ?_
    clear hK1 hK2 hK3 hK4 hK5
    have h0 : (inB fd && mayB x) = false := by
      rcases hc0 with h | h
      · have : inB fd = false := by simp [inB]; omega
        rw [this]; rfl
      · rw [h]; simp
    exact Hd.ret1 rfl () (by simp [wantE, h0]; rfl) (by simp only [LS.want, h0]; exact (Ent.sep (by repeat (first | with_reducible exact Ent.same | exact Ent.nil | with_reducible exact Ent.left | (apply Ent.pick; focus ((repeat (first | with_reducible exact Pick.here | apply Pick.there | with_reducible apply Pick.right)); done)) | refine Ent.pure (by assumption) ?_ | apply Ent.ownNil | with_reducible apply Ent.right | exact Ent.left | exact Ent.same | refine Ent.skip ?_))))
  ·
    try simp only [decide_eq_true_eq, decide_eq_false_iff_not, Bool.and_eq_true, Bool.or_eq_true, Bool.and_eq_false_iff, Bool.or_eq_false_iff, Bool.not_eq_true', Bool.not_eq_false', Bool.not_eq_true, Bool.not_eq_false, Int.not_lt, Int.not_le, Decidable.not_not, ne_eq] at hc0
    obtain ⟨hin, hmay⟩ : (¬fd < 0 ∧ ¬95 < fd) ∧ mayB x = true := by
      first | exact ⟨⟨by omega, by omega⟩, hc0.2⟩ | (simp at hc0; exact ⟨⟨by omega, by omega⟩, hc0.2⟩)
    have hin2 : inB fd = true := by simp [inB]; omega
    obtain ⟨j, rfl, hj⟩ := inB_nat hin2
    refine Hd.skip ?_
    refine Hd.toK hK3 ?_
    refine Hd.seq (fun K6 hK6 => ?_)
    refine Hd.region ?_
    refine Hd.yv (y_move rfl) ?_
    refine Hd.yv (y_move rfl) ?_
    refine Hd.yv (y_move rfl) ?_
    refine Hd.yv (y_nilp rfl) ?_
    first | (refine Hd.yv (y_field' (q := 96) (ft := 47) Try.underlying51 rfl sz47 rfl rfl) ?_) | (refine Hd.yv (y_fieldR (q := 96) (ft := 47) Try.underlying51 rfl sz47 rfl rfl) ?_)
    refine Hd.yv (y_idxA Try.underlying47 sz3 rfl rfl (by first | omega | decide)) ?_
    first | (refine Hd.store1 sz3 rfl rfl rfl (by repeat (first | with_reducible exact Pick.here | apply Pick.there | with_reducible apply Pick.right)) (by first | (rw [LS.cs_len0]; omega) | decide | (simp; done) | (simp; omega)) ?_) | (refine Hd.storeG1 sz3 rfl rfl rfl (by repeat (first | with_reducible exact Pick.here | apply Pick.there | with_reducible apply Pick.right)) (by first | (rw [LS.cs_len0]; omega) | decide | (simp; done) | (simp; omega)) ?_) | (refine Hd.storeO1 sz3 rfl rfl rfl (by repeat (first | with_reducible exact Pick.here | apply Pick.there | with_reducible apply Pick.right)) (by first | (rw [LS.cs_len0]; omega) | omega | (simp; done) | (simp; omega)) ?_)
    try simp only [List.set_cons_zero, List.set_cons_succ]
    refine Hd.nil ?_
    refine Hd.slots [] trivial ?_
    refine Hd.toK hK6 ?_
    refine Hd.seq (fun K7 hK7 => ?_)
    refine Hd.region ?_
    refine Hd.yv (y_assign rfl) ?_
    refine Hd.nil ?_
    refine Hd.slots [(6, _)] ⟨rfl, trivial⟩ ?_
    refine Hd.toK hK7 ?_
    refine Hd.ret ?_
    clear hK1 hK2 hK3 hK4 hK6 hK7
    have h0 : (inB (j : Int) && mayB x) = true := by simp [hin2, hmay]
    exact Hd.ret1 rfl () (by simp [wantE, h0]; rfl) (by simp only [LS.want, h0, if_true]; exact (Ent.sep (.eq (by repeat (first | with_reducible exact Pick.here | apply Pick.there | with_reducible apply Pick.right)) (pt_eq (by simp only [s.set_w _ hj, Int.toNat_natCast])) (by repeat (first | with_reducible exact Ent.same | exact Ent.nil | with_reducible exact Ent.left | (apply Ent.pick; focus ((repeat (first | with_reducible exact Pick.here | apply Pick.there | with_reducible apply Pick.right)); done)) | refine Ent.pure (by assumption) ?_ | apply Ent.ownNil | with_reducible apply Ent.right | exact Ent.left | exact Ent.same | refine Ent.skip ?_)))))
theorem rforget_ct (L : List SP) (b : Nat) (s : LS) (fd : Int) : Ct Try.prog 27 #[.pointer (some ⟨b, 0, none⟩), .int .i64 fd] (RLs b s :: L) (fun _ : Unit => .tuple #[]) (fun _ => RLs b (s.forget fd) :: L) := by
  refine Ct.of (vs := [.pointer (some ⟨b, 0, none⟩), .int .i64 fd]) Try.func27 rfl rfl [(0, .pointer (some ⟨b, 0, none⟩)), (1, .int .i64 fd)] ⟨rfl, rfl, trivial⟩ ?_
  intro E
  show Hd E 20 _ _ _ _
  refine Hd.seq (fun K1 hK1 => ?_)
  refine Hd.region ?_
  refine Hd.yv (y_move rfl) ?_
  refine Hd.yv (y_geq rfl rfl) ?_
  refine Hd.yv (y_move rfl) ?_
  apply Hd.andg 3 6 9 [(0, _), (1, _)] rfl ⟨rfl, rfl, trivial⟩
  · intro hg0_6
    try simp only [decide_eq_true_eq, decide_eq_false_iff_not, Bool.and_eq_true, Bool.or_eq_true, Bool.and_eq_false_iff, Bool.or_eq_false_iff, Bool.not_eq_true', Bool.not_eq_false', Bool.not_eq_true, Bool.not_eq_false, Int.not_lt, Int.not_le, Decidable.not_not, ne_eq] at hg0_6
    simp only [List.take]
    refine Hd.yg rfl rfl (y_move rfl) ?_
    refine Hd.yg rfl rfl (y_leq rfl rfl) ?_
    first | (refine Hd.yv (y_pickT rfl rfl) ?_) | (refine Hd.yv (y_pickF rfl rfl) ?_) | (refine Hd.yv (y_pickb rfl rfl rfl) ?_) | (refine Hd.yv (y_pick rfl rfl rfl) ?_)
    refine Hd.nil ?_
    exact Hd.mend (by repeat (first | exact trivial | refine ⟨rfl, ?_⟩)) (Ent.sep (by repeat (first | with_reducible exact Ent.same | exact Ent.nil | with_reducible exact Ent.left | (apply Ent.pick; focus ((repeat (first | with_reducible exact Pick.here | apply Pick.there | with_reducible apply Pick.right)); done)) | refine Ent.pure (by assumption) ?_ | apply Ent.ownNil | with_reducible apply Ent.right | exact Ent.left | exact Ent.same | refine Ent.skip ?_)))
  · intro hg0_6
    try simp only [decide_eq_true_eq, decide_eq_false_iff_not, Bool.and_eq_true, Bool.or_eq_true, Bool.and_eq_false_iff, Bool.or_eq_false_iff, Bool.not_eq_true', Bool.not_eq_false', Bool.not_eq_true, Bool.not_eq_false, Int.not_lt, Int.not_le, Decidable.not_not, ne_eq] at hg0_6
    simp only [List.take]
    refine Hd.ng rfl rfl rfl ?_
    refine Hd.ng rfl rfl rfl ?_
    first | (refine Hd.yv (y_pickT rfl rfl) ?_) | (refine Hd.yv (y_pickF rfl rfl) ?_) | (refine Hd.yv (y_pickb rfl rfl rfl) ?_) | (refine Hd.yv (y_pick rfl rfl rfl) ?_)
    refine Hd.nil ?_
    exact Hd.mend (by repeat (first | exact trivial | refine ⟨rfl, ?_⟩)) (Ent.sep (by repeat (first | with_reducible exact Ent.same | exact Ent.nil | with_reducible exact Ent.left | (apply Ent.pick; focus ((repeat (first | with_reducible exact Pick.here | apply Pick.there | with_reducible apply Pick.right)); done)) | refine Ent.pure (by assumption) ?_ | apply Ent.ownNil | with_reducible apply Ent.right | exact Ent.left | exact Ent.same | refine Ent.skip ?_)))
  simp only [List.drop]
  refine Hd.nil ?_
  refine Hd.slots [(0, _), (1, _), (9, _)] ⟨rfl, rfl, rfl, trivial⟩ ?_
  refine Hd.toK hK1 ?_
  refine Hd.cond rfl (fun hc0 => ?_) (fun hc0 => ?_)
  ·
    try simp only [decide_eq_true_eq, decide_eq_false_iff_not, Bool.and_eq_true, Bool.or_eq_true, Bool.and_eq_false_iff, Bool.or_eq_false_iff, Bool.not_eq_true', Bool.not_eq_false', Bool.not_eq_true, Bool.not_eq_false, Int.not_lt, Int.not_le, Decidable.not_not, ne_eq] at hc0
    have hin : inB fd = true := by simp [inB]; omega
    obtain ⟨j, rfl, hj⟩ := inB_nat hin
    refine Hd.seq (fun K2 hK2 => ?_)
    refine Hd.region ?_
    refine Hd.yv (y_move rfl) ?_
    refine Hd.yv (y_move rfl) ?_
    refine Hd.yv (y_nilp rfl) ?_
    first | (refine Hd.yv (y_field' (q := 0) (ft := 47) Try.underlying51 rfl sz47 rfl rfl) ?_) | (refine Hd.yv (y_fieldR (q := 0) (ft := 47) Try.underlying51 rfl sz47 rfl rfl) ?_)
    refine Hd.yv (y_idxA Try.underlying47 sz3 rfl rfl (by first | omega | decide)) ?_
    first | (refine Hd.store1 sz3 rfl rfl rfl (by repeat (first | with_reducible exact Pick.here | apply Pick.there | with_reducible apply Pick.right)) (by first | (rw [LS.cs_len0]; omega) | (rw [List.length_set, LS.cs_len0]; omega) | decide | (simp; done) | (simp; omega)) ?_) | (refine Hd.storeG1 sz3 rfl rfl rfl (by repeat (first | with_reducible exact Pick.here | apply Pick.there | with_reducible apply Pick.right)) (by first | (rw [LS.cs_len0]; omega) | (rw [List.length_set, LS.cs_len0]; omega) | decide | (simp; done) | (simp; omega)) ?_) | (refine Hd.storeO1 sz3 rfl rfl rfl (by repeat (first | with_reducible exact Pick.here | apply Pick.there | with_reducible apply Pick.right)) (by first | (rw [LS.cs_len0]; omega) | (rw [List.length_set, LS.cs_len0]; omega) | omega | (simp; done) | (simp; omega)) ?_)
    try simp only [List.set_cons_zero, List.set_cons_succ]
    refine Hd.nil ?_
    refine Hd.slots [(0, _), (1, _)] ⟨rfl, rfl, trivial⟩ ?_
    refine Hd.toK hK2 ?_
    refine Hd.region ?_
    refine Hd.yv (y_move rfl) ?_
    refine Hd.yv (y_move rfl) ?_
    refine Hd.yv (y_nilp rfl) ?_
    first | (refine Hd.yv (y_field' (q := 96) (ft := 47) Try.underlying51 rfl sz47 rfl rfl) ?_) | (refine Hd.yv (y_fieldR (q := 96) (ft := 47) Try.underlying51 rfl sz47 rfl rfl) ?_)
    refine Hd.yv (y_idxA Try.underlying47 sz3 rfl rfl (by first | omega | decide)) ?_
    first | (refine Hd.store1 sz3 rfl rfl rfl (by repeat (first | with_reducible exact Pick.here | apply Pick.there | with_reducible apply Pick.right)) (by first | (rw [LS.cs_len0]; omega) | (rw [List.length_set, LS.cs_len0]; omega) | decide | (simp; done) | (simp; omega)) ?_) | (refine Hd.storeG1 sz3 rfl rfl rfl (by repeat (first | with_reducible exact Pick.here | apply Pick.there | with_reducible apply Pick.right)) (by first | (rw [LS.cs_len0]; omega) | (rw [List.length_set, LS.cs_len0]; omega) | decide | (simp; done) | (simp; omega)) ?_) | (refine Hd.storeO1 sz3 rfl rfl rfl (by repeat (first | with_reducible exact Pick.here | apply Pick.there | with_reducible apply Pick.right)) (by first | (rw [LS.cs_len0]; omega) | (rw [List.length_set, LS.cs_len0]; omega) | omega | (simp; done) | (simp; omega)) ?_)
    try simp only [List.set_cons_zero, List.set_cons_succ]
    refine Hd.nil ?_
    refine Hd.slots [] trivial ?_
    clear hK1 hK2
    refine Hd.end0 rfl () rfl (by simp only [LS.forget, hin, if_true]; exact (Ent.sep (.eq (by repeat (first | with_reducible exact Pick.here | apply Pick.there | with_reducible apply Pick.right)) (pt_eq (by simp only [s.set_h _ hj, LS.set_w _ _ hj, Int.toNat_natCast])) (by repeat (first | with_reducible exact Ent.same | exact Ent.nil | with_reducible exact Ent.left | (apply Ent.pick; focus ((repeat (first | with_reducible exact Pick.here | apply Pick.there | with_reducible apply Pick.right)); done)) | refine Ent.pure (by assumption) ?_ | apply Ent.ownNil | with_reducible apply Ent.right | exact Ent.left | exact Ent.same | refine Ent.skip ?_)))))
  ·
    try simp only [decide_eq_true_eq, decide_eq_false_iff_not, Bool.and_eq_true, Bool.or_eq_true, Bool.and_eq_false_iff, Bool.or_eq_false_iff, Bool.not_eq_true', Bool.not_eq_false', Bool.not_eq_true, Bool.not_eq_false, Int.not_lt, Int.not_le, Decidable.not_not, ne_eq] at hc0
    refine Hd.skip ?_
    clear hK1
    have hin : inB fd = false := by simp [inB]; omega
    refine Hd.end0 rfl () rfl (by simp only [LS.forget, hin]; exact (Ent.sep (by repeat (first | with_reducible exact Ent.same | exact Ent.nil | with_reducible exact Ent.left | (apply Ent.pick; focus ((repeat (first | with_reducible exact Pick.here | apply Pick.there | with_reducible apply Pick.right)); done)) | refine Ent.pure (by assumption) ?_ | apply Ent.ownNil | with_reducible apply Ent.right | exact Ent.left | exact Ent.same | refine Ent.skip ?_))))
theorem rchanges_ct (L : List SP) (b : Nat) (s : LS) : Ct Try.prog 29 #[.pointer (some ⟨b, 0, none⟩)] (RLs b s :: L)
    (fun i : Option Addr × Nat => .slice i.1 (s.chs 96).length i.2) (fun i => own 27 3 i.1 (s.chs 96).length i.2 ((s.chs 96).flatMap encC) :: RLs b s :: L) := by
  refine Ct.of (vs := [.pointer (some ⟨b, 0, none⟩)]) Try.func29 rfl rfl [(0, .pointer (some ⟨b, 0, none⟩))] ⟨rfl, trivial⟩ ?_
  intro E
  show Hd E 40 _ _ _ _
  refine Hd.seq (fun K1 hK1 => ?_)
  refine Hd.region ?_
  refine Hd.yv (y_assign rfl) ?_
  refine Hd.nil ?_
  refine Hd.slots [(0, _)] ⟨rfl, trivial⟩ ?_
  refine Hd.toK hK1 ?_
  refine Hd.seq (fun K2 hK2 => ?_)
  refine Hd.region ?_
  refine Hd.yv (y_assign rfl) ?_
  refine Hd.nil ?_
  refine Hd.slots [(0, _), (3, _)] ⟨rfl, rfl, trivial⟩ ?_
  refine Hd.toK hK2 ?_
  refine Hd.seq (fun K3 hK3 => ?_)
  refine Hd.seq (fun K4 hK4 => ?_)
  refine Hd.region ?_
  refine Hd.yv (y_assign rfl) ?_
  refine Hd.nil ?_
  refine Hd.slots [(0, _), (3, _), (4, _)] ⟨rfl, rfl, rfl, trivial⟩ ?_
  refine Hd.toK hK4 ?_
  refine Hd.block ?_
  refine Hd.loop (ι := Nat × Option Addr × Nat) (fun i => [(0, .pointer (some ⟨b, 0, none⟩)), (3, .slice i.2.1 (s.chs i.1).length i.2.2), (4, .int .i64 (i.1 : Int))])
    (fun i => pu (i.1 ≤ 96) :: own 27 3 i.2.1 (s.chs i.1).length i.2.2 ((s.chs i.1).flatMap encC) :: RLs b s :: L) (fun i => 96 - i.1) (0, none, 0) ⟨rfl, rfl, rfl, trivial⟩ (Ent.sep (.pure (by simp) (.ownNil (by repeat (first | with_reducible exact Ent.same | exact Ent.nil | with_reducible exact Ent.left | (apply Ent.pick; focus ((repeat (first | with_reducible exact Pick.here | apply Pick.there | with_reducible apply Pick.right)); done)) | refine Ent.pure (by assumption) ?_ | apply Ent.ownNil | with_reducible apply Ent.right | exact Ent.left | exact Ent.same | refine Ent.skip ?_))))) ?_
  rintro ⟨k, ad, cap⟩
  dsimp only
  refine Hd.pure (fun hk => ?_)
  have hkk : k ≤ 96 := hk
  have hcl := chs_le s k
  refine Hd.seq (fun K5 hK5 => ?_)
  refine Hd.seq (fun K6 hK6 => ?_)
  refine Hd.region ?_
  refine Hd.yv (y_move rfl) ?_
  refine Hd.yv (y_leq rfl rfl) ?_
  refine Hd.nil ?_
  refine Hd.slots [(0, _), (3, _), (4, _), (6, _)] ⟨rfl, rfl, rfl, rfl, trivial⟩ ?_
  refine Hd.toK hK6 ?_
  refine Hd.cond rfl (fun hc0 => ?_) (fun hc0 => ?_)
  ·
    try simp only [decide_eq_true_eq, decide_eq_false_iff_not, Bool.and_eq_true, Bool.or_eq_true, Bool.and_eq_false_iff, Bool.or_eq_false_iff, Bool.not_eq_true', Bool.not_eq_false', Bool.not_eq_true, Bool.not_eq_false, Int.not_lt, Int.not_le, Decidable.not_not, ne_eq] at hc0
    have hk' : k < 96 := by omega
    refine Hd.skip ?_
    refine Hd.toK hK5 ?_
    refine Hd.seq (fun K7 hK7 => ?_)
    refine Hd.block ?_
    refine Hd.seq (fun K8 hK8 => ?_)
    refine Hd.quiet mixed (by kernel_rfl) ?_
    refine Hq.yv (y_move rfl) ?_
    refine Hq.yv (y_move rfl) ?_
    refine Hq.yv (y_nilp rfl) ?_
    first | (refine Hq.yv (y_field' (q := 0) (ft := 47) Try.underlying51 rfl sz47 rfl rfl) ?_) | (refine Hq.yv (y_fieldR (q := 0) (ft := 47) Try.underlying51 rfl sz47 rfl rfl) ?_)
    refine Hq.yv (y_idxA Try.underlying47 sz3 rfl rfl (by first | omega | decide)) ?_
    first | (refine Hq.yv (y_load1 ag3 rfl (Rd.pt1 (by repeat (first | with_reducible exact Pick.here | apply Pick.there | with_reducible apply Pick.right)) (by (first | exact s.at_h _ hk' | exact s.at_w _ hk' | rfl)))) ?_) | (refine Hq.yv (y_load1 ag3 rfl (Rd.seg1 (by repeat (first | with_reducible exact Pick.here | apply Pick.there | with_reducible apply Pick.right)) (by (first | exact s.at_h _ hk' | exact s.at_w _ hk' | rfl)))) ?_) | (refine Hq.yv (y_loadR1 ag3 rfl (by (first | exact RdS.own (by repeat (first | with_reducible exact Pick.here | apply Pick.there | with_reducible apply Pick.right)))) (by (first | exact s.at_h _ hk' | exact s.at_w _ hk' | rfl))) ?_)
    refine Hq.yv (y_move rfl) ?_
    refine Hq.yv (y_move rfl) ?_
    refine Hq.yv (y_nilp rfl) ?_
    first | (refine Hq.yv (y_field' (q := 96) (ft := 47) Try.underlying51 rfl sz47 rfl rfl) ?_) | (refine Hq.yv (y_fieldR (q := 96) (ft := 47) Try.underlying51 rfl sz47 rfl rfl) ?_)
    refine Hq.yv (y_idxA Try.underlying47 sz3 rfl rfl (by first | omega | decide)) ?_
    first | (refine Hq.yv (y_load1 ag3 rfl (Rd.pt1 (by repeat (first | with_reducible exact Pick.here | apply Pick.there | with_reducible apply Pick.right)) (by (first | exact s.at_h _ hk' | exact s.at_w _ hk' | rfl)))) ?_) | (refine Hq.yv (y_load1 ag3 rfl (Rd.seg1 (by repeat (first | with_reducible exact Pick.here | apply Pick.there | with_reducible apply Pick.right)) (by (first | exact s.at_h _ hk' | exact s.at_w _ hk' | rfl)))) ?_) | (refine Hq.yv (y_loadR1 ag3 rfl (by (first | exact RdS.own (by repeat (first | with_reducible exact Pick.here | apply Pick.there | with_reducible apply Pick.right)))) (by (first | exact s.at_h _ hk' | exact s.at_w _ hk' | rfl))) ?_)
    refine Hq.yv (y_neq rfl rfl) ?_
    refine Hq.nil ?_
    refine Hd.slots [(0, _), (3, _), (4, _), (21, _)] ⟨rfl, rfl, rfl, rfl, trivial⟩ ?_
    refine Hd.toK hK8 ?_
    refine Hd.cond rfl (fun hc1 => ?_) (fun hc1 => ?_)
    ·
      try simp only [decide_eq_true_eq, decide_eq_false_iff_not, Bool.and_eq_true, Bool.or_eq_true, Bool.and_eq_false_iff, Bool.or_eq_false_iff, Bool.not_eq_true', Bool.not_eq_false', Bool.not_eq_true, Bool.not_eq_false, Int.not_lt, Int.not_le, Decidable.not_not, ne_eq] at hc1
      have e : s.chs (k + 1) = s.chs k ++ [((k : Int), s.h.getD k 0, s.w.getD k 0)] := by simp only [LS.chs, LS.chg]; rw [if_neg hc1]
      refine Hd.draws mixed ?_
      simp only [List.length, Nat.zero_add, Nat.reduceAdd]
      refine Hd.take 0 rfl (by kernel_rfl) (by kernel_rfl) (by kernel_rfl) (fun _ => y_move rfl) (fun _ _ => rfl) ?_
      refine Hd.take 1 rfl (by kernel_rfl) (by kernel_rfl) (by kernel_rfl) (fun _ => y_move rfl) (fun _ _ => rfl) ?_
      refine Hd.take 2 rfl (by kernel_rfl) (by kernel_rfl) (by kernel_rfl) (fun _ => y_move rfl) (fun _ _ => rfl) ?_
      refine Hd.take 3 rfl (by kernel_rfl) (by kernel_rfl) (by kernel_rfl) (fun _ => y_move rfl) (fun _ _ => rfl) ?_
      refine Hd.take 4 rfl (by kernel_rfl) (by kernel_rfl) (by kernel_rfl) (fun _ => y_nilp rfl) (fun _ _ => rfl) ?_
      first | (refine Hd.take 5 rfl (by kernel_rfl) (by kernel_rfl) (by kernel_rfl) (fun _ => y_field' (q := 0) (ft := 47) Try.underlying51 rfl sz47 rfl rfl) (fun _ _ => rfl) ?_) | (refine Hd.take 5 rfl (by kernel_rfl) (by kernel_rfl) (by kernel_rfl) (fun _ => y_fieldR (q := 0) (ft := 47) Try.underlying51 rfl sz47 rfl rfl) (fun _ _ => rfl) ?_)
      refine Hd.take 8 rfl (by kernel_rfl) (by kernel_rfl) (by kernel_rfl) (fun _ => y_move rfl) (fun _ _ => rfl) ?_
      refine Hd.take 9 rfl (by kernel_rfl) (by kernel_rfl) (by kernel_rfl) (fun _ => y_move rfl) (fun _ _ => rfl) ?_
      refine Hd.take 10 rfl (by kernel_rfl) (by kernel_rfl) (by kernel_rfl) (fun _ => y_nilp rfl) (fun _ _ => rfl) ?_
      first | (refine Hd.take 11 rfl (by kernel_rfl) (by kernel_rfl) (by kernel_rfl) (fun _ => y_field' (q := 96) (ft := 47) Try.underlying51 rfl sz47 rfl rfl) (fun _ _ => rfl) ?_) | (refine Hd.take 11 rfl (by kernel_rfl) (by kernel_rfl) (by kernel_rfl) (fun _ => y_fieldR (q := 96) (ft := 47) Try.underlying51 rfl sz47 rfl rfl) (fun _ _ => rfl) ?_)
      refine Hd.tailAt 15 [6, 7, 12, 13, 14] [15, 16, 17] rfl rfl rfl (by kernel_rfl) ?_
      simp only [pk, List.getElem?_cons_zero, List.getElem?_cons_succ]
      refine Ht.yv (y_idxA Try.underlying47 sz3 rfl rfl (by first | omega | decide)) ?_
      first | (refine Ht.yv (y_load1 ag3 rfl (Rd.pt1 (by repeat (first | with_reducible exact Pick.here | apply Pick.there | with_reducible apply Pick.right)) (by (first | exact s.at_h _ hk' | exact s.at_w _ hk' | rfl)))) ?_) | (refine Ht.yv (y_load1 ag3 rfl (Rd.seg1 (by repeat (first | with_reducible exact Pick.here | apply Pick.there | with_reducible apply Pick.right)) (by (first | exact s.at_h _ hk' | exact s.at_w _ hk' | rfl)))) ?_) | (refine Ht.yv (y_loadR1 ag3 rfl (by (first | exact RdS.own (by repeat (first | with_reducible exact Pick.here | apply Pick.there | with_reducible apply Pick.right)))) (by (first | exact s.at_h _ hk' | exact s.at_w _ hk' | rfl))) ?_)
      refine Ht.yv (y_idxA Try.underlying47 sz3 rfl rfl (by first | omega | decide)) ?_
      first | (refine Ht.yv (y_load1 ag3 rfl (Rd.pt1 (by repeat (first | with_reducible exact Pick.here | apply Pick.there | with_reducible apply Pick.right)) (by (first | exact s.at_h _ hk' | exact s.at_w _ hk' | rfl)))) ?_) | (refine Ht.yv (y_load1 ag3 rfl (Rd.seg1 (by repeat (first | with_reducible exact Pick.here | apply Pick.there | with_reducible apply Pick.right)) (by (first | exact s.at_h _ hk' | exact s.at_w _ hk' | rfl)))) ?_) | (refine Ht.yv (y_loadR1 ag3 rfl (by (first | exact RdS.own (by repeat (first | with_reducible exact Pick.here | apply Pick.there | with_reducible apply Pick.right)))) (by (first | exact s.at_h _ hk' | exact s.at_w _ hk' | rfl))) ?_)
      refine Ht.yv (y_build (vs := [(0, _), (1, _), (2, _)]) rfl (by first | exact bd29_36 .. | kernel_rfl)) ?_
      refine Ht.nil ?_
      refine Hd.bslice (vs := [(0, _)]) rfl (by first | exact bs29_37 .. | kernel_rfl) (fun b37 => ?_)
      refine Hd.append Try.underlying42 ty27 rfl rfl rfl (by repeat (first | with_reducible exact Pick.here | apply Pick.there | with_reducible apply Pick.right)) (by first | exact RdS.rd (Rd.pt (by repeat (first | with_reducible exact Pick.here | apply Pick.there | with_reducible apply Pick.right)) (fun j v e => by simpa using e)) rfl | (first | exact RdS.own (by repeat (first | with_reducible exact Pick.here | apply Pick.there | with_reducible apply Pick.right)))) (by first | (simp [Value.oneCell']; done) | assumption) (by first | (simp only [maxLen]; omega) | assumption) (by omega) (fun ad38 cap38 => ?_)
      refine Hd.yv (y_assign rfl) ?_
      refine Hd.nil ?_
      refine Hd.noPn ?_
      refine Hd.slots [(0, _), (3, _), (4, _)] ⟨rfl, rfl, rfl, trivial⟩ ?_
      refine Hd.inB ?_
      refine Hd.toK hK7 ?_
      refine Hd.region ?_
      refine Hd.yv (y_move rfl) ?_
      first | (refine Hd.yv (y_addn rfl rfl (by simp only [InK]; omega)) ?_) | (refine Hd.yv (y_add rfl rfl) ?_)
      refine Hd.yv (y_assign rfl) ?_
      refine Hd.nil ?_
      refine Hd.slots [(0, _), (3, _), (4, _)] ⟨rfl, rfl, rfl, trivial⟩ ?_
      clear hK1 hK2 hK3 hK4 hK5 hK6 hK7 hK8
      refine Hd.thenN ?_
      have e1 : (s.chs (k + 1)).length = (s.chs k).length + 1 := by rw [e]; simp
      refine Hd.again (k + 1, ad38, cap38) (by simp only; omega) ⟨rfl, by rw [e1]; rfl, rfl, trivial⟩ (Ent.sep (.pure (show k + 1 ≤ 96 by omega) (.eq (by repeat (first | with_reducible exact Pick.here | apply Pick.there | with_reducible apply Pick.right)) (own_eq e1.symm (by rw [e]; simp)) (by repeat (first | with_reducible exact Ent.same | exact Ent.nil | with_reducible exact Ent.left | (apply Ent.pick; focus ((repeat (first | with_reducible exact Pick.here | apply Pick.there | with_reducible apply Pick.right)); done)) | refine Ent.pure (by assumption) ?_ | apply Ent.ownNil | with_reducible apply Ent.right | exact Ent.left | exact Ent.same | refine Ent.skip ?_)))))
    ·
      try simp only [decide_eq_true_eq, decide_eq_false_iff_not, Bool.and_eq_true, Bool.or_eq_true, Bool.and_eq_false_iff, Bool.or_eq_false_iff, Bool.not_eq_true', Bool.not_eq_false', Bool.not_eq_true, Bool.not_eq_false, Int.not_lt, Int.not_le, Decidable.not_not, ne_eq] at hc1
      have e : s.chs (k + 1) = s.chs k := by simp only [LS.chs, LS.chg, hc1, if_true, List.append_nil]
      refine Hd.skip ?_
      refine Hd.inB ?_
      refine Hd.toK hK7 ?_
      refine Hd.region ?_
      refine Hd.yv (y_move rfl) ?_
      first | (refine Hd.yv (y_addn rfl rfl (by simp only [InK]; omega)) ?_) | (refine Hd.yv (y_add rfl rfl) ?_)
      refine Hd.yv (y_assign rfl) ?_
      refine Hd.nil ?_
      refine Hd.slots [(0, _), (3, _), (4, _)] ⟨rfl, rfl, rfl, trivial⟩ ?_
      clear hK1 hK2 hK3 hK4 hK5 hK6 hK7 hK8
      refine Hd.thenN ?_
      refine Hd.again (k + 1, ad, cap) (by simp only; omega) ⟨rfl, by simp only [e]; rfl, rfl, trivial⟩ (Ent.sep (.pure (show k + 1 ≤ 96 by omega) (.eq (by repeat (first | with_reducible exact Pick.here | apply Pick.there | with_reducible apply Pick.right)) (own_eq (by rw [e]) (by rw [e])) (by repeat (first | with_reducible exact Ent.same | exact Ent.nil | with_reducible exact Ent.left | (apply Ent.pick; focus ((repeat (first | with_reducible exact Pick.here | apply Pick.there | with_reducible apply Pick.right)); done)) | refine Ent.pure (by assumption) ?_ | apply Ent.ownNil | with_reducible apply Ent.right | exact Ent.left | exact Ent.same | refine Ent.skip ?_)))))
  ·
    try simp only [decide_eq_true_eq, decide_eq_false_iff_not, Bool.and_eq_true, Bool.or_eq_true, Bool.and_eq_false_iff, Bool.or_eq_false_iff, Bool.not_eq_true', Bool.not_eq_false', Bool.not_eq_true, Bool.not_eq_false, Int.not_lt, Int.not_le, Decidable.not_not, ne_eq] at hc0
    refine Hd.exit ?_
    refine Hd.thenExit ?_
    refine Hd.thenExit ?_
    refine Hd.inBexit ?_
    refine Hd.toK hK3 ?_
    refine Hd.seq (fun K9 hK9 => ?_)
    refine Hd.region ?_
    refine Hd.yv (y_move rfl) ?_
    refine Hd.yv (y_assign rfl) ?_
    refine Hd.nil ?_
    refine Hd.slots [(2, _)] ⟨rfl, trivial⟩ ?_
    refine Hd.toK hK9 ?_
    refine Hd.ret ?_
    clear hK1 hK2 hK3 hK4 hK5 hK6 hK9
    obtain rfl : k = 96 := by omega
    exact Hd.ret1 rfl (ad, cap) rfl (Ent.sep (by repeat (first | with_reducible exact Ent.same | exact Ent.nil | with_reducible exact Ent.left | (apply Ent.pick; focus ((repeat (first | with_reducible exact Pick.here | apply Pick.there | with_reducible apply Pick.right)); done)) | refine Ent.pure (by assumption) ?_ | apply Ent.ownNil | with_reducible apply Ent.right | exact Ent.left | exact Ent.same | refine Ent.skip ?_)))
/-- the first k are held as they are wanted -/
def LS.flt (s : LS) (k : Nat) : LS := ⟨s.w.take k ++ s.h.drop k, s.w, by simp [s.hh, s.hw]; omega, s.hw⟩
theorem LS.flt_96 (s : LS) : s.flt 96 = s.flush := by
  have h1 := s.hh; have h2 := s.hw
  unfold LS.flt LS.flush
  congr
  rw [List.take_of_length_le (by omega), List.drop_of_length_le (by omega), List.append_nil]
theorem LS.flt_0 (s : LS) : s.flt 0 = s := by cases s; simp [LS.flt]
theorem LS.flt_succ (s : LS) {k : Nat} (hk : k < 96) : (s.flt k).seth k (s.w.getD k 0) = s.flt (k + 1) := by
  have h1 := s.hh; have h2 := s.hw
  unfold LS.flt LS.seth
  congr
  apply List.ext_getElem?
  intro j
  rw [List.getElem?_set]
  have hkl : k < (s.w.take k ++ s.h.drop k).length := by simp [h1, h2]; omega
  by_cases hj : k = j
  · subst hj
    rw [if_pos rfl, if_pos hkl, List.getElem?_append_left (by simp; omega), List.getElem?_take_of_lt (by omega)]
    simp [List.getD, List.getElem?_eq_getElem (show k < s.w.length by omega)]
  · rw [if_neg hj]
    by_cases hlt : j < k
    · rw [List.getElem?_append_left (by simp; omega), List.getElem?_append_left (by simp; omega), List.getElem?_take_of_lt hlt, List.getElem?_take_of_lt (by omega)]
    · rw [List.getElem?_append_right (by simp; omega), List.getElem?_append_right (by simp; omega), List.getElem?_drop, List.getElem?_drop]
      congr 1
      simp [h2]; omega
theorem rflush_ct (L : List SP) (b : Nat) (s : LS) : Ct Try.prog 28 #[.pointer (some ⟨b, 0, none⟩)] (RLs b s :: L)
    (fun i : Option Addr × Nat => .slice i.1 (s.chs 96).length i.2) (fun i => own 27 3 i.1 (s.chs 96).length i.2 ((s.chs 96).flatMap encC) :: RLs b s.flush :: L) := by
  refine Ct.of (vs := [.pointer (some ⟨b, 0, none⟩)]) Try.func28 rfl rfl [(0, .pointer (some ⟨b, 0, none⟩))] ⟨rfl, trivial⟩ ?_
  intro E
  show Hd E 23 _ _ _ _
  refine Hd.seq (fun K1 hK1 => ?_)
  refine Hd.region ?_
  refine Hd.yv (y_assign rfl) ?_
  refine Hd.nil ?_
  refine Hd.slots [(0, _)] ⟨rfl, trivial⟩ ?_
  refine Hd.toK hK1 ?_
  refine Hd.seq (fun K2 hK2 => ?_)
  refine Hd.region ?_
  refine Hd.yv (y_move rfl) ?_
  refine Hd.callE rfl fk29 (rchanges_ct _ b s) (Ent.sep (by repeat (first | with_reducible exact Ent.same | exact Ent.nil | with_reducible exact Ent.left | (apply Ent.pick; focus ((repeat (first | with_reducible exact Pick.here | apply Pick.there | with_reducible apply Pick.right)); done)) | refine Ent.pure (by assumption) ?_ | apply Ent.ownNil | with_reducible apply Ent.right | exact Ent.left | exact Ent.same | refine Ent.skip ?_))) ?_
  rintro ⟨ad, cap⟩
  refine Hd.yv (y_assign rfl) ?_
  refine Hd.nil ?_
  refine Hd.slots [(0, _), (3, _)] ⟨rfl, rfl, trivial⟩ ?_
  refine Hd.toK hK2 ?_
  refine Hd.seq (fun K3 hK3 => ?_)
  refine Hd.seq (fun K4 hK4 => ?_)
  refine Hd.region ?_
  refine Hd.yv (y_assign rfl) ?_
  refine Hd.nil ?_
  refine Hd.slots [(0, _), (3, _), (4, _)] ⟨rfl, rfl, rfl, trivial⟩ ?_
  refine Hd.toK hK4 ?_
  refine Hd.block ?_
  refine Hd.loop (ι := Nat) (fun k => [(0, .pointer (some ⟨b, 0, none⟩)), (3, .slice ad (s.chs 96).length cap), (4, .int .i64 (k : Int))])
    (fun k => pu (k ≤ 96) :: RLs b (s.flt k) :: own 27 3 ad (s.chs 96).length cap ((s.chs 96).flatMap encC) :: L) (fun k => 96 - k) 0 ⟨rfl, rfl, rfl, trivial⟩ (by rw [s.flt_0]; exact (Ent.sep (.pure (by omega) (by repeat (first | with_reducible exact Ent.same | exact Ent.nil | with_reducible exact Ent.left | (apply Ent.pick; focus ((repeat (first | with_reducible exact Pick.here | apply Pick.there | with_reducible apply Pick.right)); done)) | refine Ent.pure (by assumption) ?_ | apply Ent.ownNil | with_reducible apply Ent.right | exact Ent.left | exact Ent.same | refine Ent.skip ?_))))) ?_
  intro k
  refine Hd.pure (fun hk => ?_)
  refine Hd.seq (fun K5 hK5 => ?_)
  refine Hd.seq (fun K6 hK6 => ?_)
  refine Hd.region ?_
  refine Hd.yv (y_move rfl) ?_
  refine Hd.yv (y_leq rfl rfl) ?_
  refine Hd.nil ?_
  refine Hd.slots [(0, _), (3, _), (4, _), (8, _)] ⟨rfl, rfl, rfl, rfl, trivial⟩ ?_
  refine Hd.toK hK6 ?_
  refine Hd.cond rfl (fun hc0 => ?_) (fun hc0 => ?_)
  ·
    try simp only [decide_eq_true_eq, decide_eq_false_iff_not, Bool.and_eq_true, Bool.or_eq_true, Bool.and_eq_false_iff, Bool.or_eq_false_iff, Bool.not_eq_true', Bool.not_eq_false', Bool.not_eq_true, Bool.not_eq_false, Int.not_lt, Int.not_le, Decidable.not_not, ne_eq] at hc0
    have hk' : k < 96 := by omega
    refine Hd.skip ?_
    refine Hd.toK hK5 ?_
    refine Hd.seq (fun K7 hK7 => ?_)
    refine Hd.block ?_
    refine Hd.tail 11 mixed (by kernel_rfl) ?_
    simp only [List.take, List.drop]
    refine Ht.yv (y_move rfl) ?_
    refine Ht.yv (y_move rfl) ?_
    refine Ht.yv (y_move rfl) ?_
    refine Ht.yv (y_move rfl) ?_
    refine Ht.yv (y_nilp rfl) ?_
    first | (refine Ht.yv (y_field' (q := 96) (ft := 47) Try.underlying51 rfl sz47 rfl rfl) ?_) | (refine Ht.yv (y_fieldR (q := 96) (ft := 47) Try.underlying51 rfl sz47 rfl rfl) ?_)
    refine Ht.yv (y_idxA Try.underlying47 sz3 rfl rfl (by first | omega | decide)) ?_
    first | (refine Ht.yv (y_load1 ag3 rfl (Rd.pt1 (by repeat (first | with_reducible exact Pick.here | apply Pick.there | with_reducible apply Pick.right)) (by (first | exact (s.flt k).at_w _ hk' | rfl)))) ?_) | (refine Ht.yv (y_load1 ag3 rfl (Rd.seg1 (by repeat (first | with_reducible exact Pick.here | apply Pick.there | with_reducible apply Pick.right)) (by (first | exact (s.flt k).at_w _ hk' | rfl)))) ?_) | (refine Ht.yv (y_loadR1 ag3 rfl (by (first | exact RdS.own (by repeat (first | with_reducible exact Pick.here | apply Pick.there | with_reducible apply Pick.right)))) (by (first | exact (s.flt k).at_w _ hk' | rfl))) ?_)
    refine Ht.yv (y_nilp rfl) ?_
    first | (refine Ht.yv (y_field' (q := 0) (ft := 47) Try.underlying51 rfl sz47 rfl rfl) ?_) | (refine Ht.yv (y_fieldR (q := 0) (ft := 47) Try.underlying51 rfl sz47 rfl rfl) ?_)
    refine Ht.yv (y_idxA Try.underlying47 sz3 rfl rfl (by first | omega | decide)) ?_
    refine Ht.nil ?_
    first | (refine Hd.store1 sz3 rfl rfl rfl (by repeat (first | with_reducible exact Pick.here | apply Pick.there | with_reducible apply Pick.right)) (by first | (rw [LS.cs_len0]; omega) | decide | (simp; done) | (simp; omega)) ?_) | (refine Hd.storeG1 sz3 rfl rfl rfl (by repeat (first | with_reducible exact Pick.here | apply Pick.there | with_reducible apply Pick.right)) (by first | (rw [LS.cs_len0]; omega) | decide | (simp; done) | (simp; omega)) ?_) | (refine Hd.storeO1 sz3 rfl rfl rfl (by repeat (first | with_reducible exact Pick.here | apply Pick.there | with_reducible apply Pick.right)) (by first | (rw [LS.cs_len0]; omega) | omega | (simp; done) | (simp; omega)) ?_)
    try simp only [List.set_cons_zero, List.set_cons_succ]
    refine Hd.nil ?_
    refine Hd.slots [(0, _), (3, _), (4, _)] ⟨rfl, rfl, rfl, trivial⟩ ?_
    refine Hd.inB ?_
    refine Hd.toK hK7 ?_
    refine Hd.region ?_
    refine Hd.yv (y_move rfl) ?_
    first | (refine Hd.yv (y_addn rfl rfl (by simp only [InK]; omega)) ?_) | (refine Hd.yv (y_add rfl rfl) ?_)
    refine Hd.yv (y_assign rfl) ?_
    refine Hd.nil ?_
    refine Hd.slots [(0, _), (3, _), (4, _)] ⟨rfl, rfl, rfl, trivial⟩ ?_
    clear hK1 hK2 hK3 hK4 hK5 hK6 hK7
    refine Hd.thenN ?_
    refine Hd.again (k + 1) (by omega) ⟨rfl, rfl, rfl, trivial⟩ (Ent.sep (.pure (by omega) (.eq (by repeat (first | with_reducible exact Pick.here | apply Pick.there | with_reducible apply Pick.right)) (pt_eq (by rw [LS.set_h _ _ hk', ← s.flt_succ hk']; rfl)) (by repeat (first | with_reducible exact Ent.same | exact Ent.nil | with_reducible exact Ent.left | (apply Ent.pick; focus ((repeat (first | with_reducible exact Pick.here | apply Pick.there | with_reducible apply Pick.right)); done)) | refine Ent.pure (by assumption) ?_ | apply Ent.ownNil | with_reducible apply Ent.right | exact Ent.left | exact Ent.same | refine Ent.skip ?_)))))
  ·
    try simp only [decide_eq_true_eq, decide_eq_false_iff_not, Bool.and_eq_true, Bool.or_eq_true, Bool.and_eq_false_iff, Bool.or_eq_false_iff, Bool.not_eq_true', Bool.not_eq_false', Bool.not_eq_true, Bool.not_eq_false, Int.not_lt, Int.not_le, Decidable.not_not, ne_eq] at hc0
    refine Hd.exit ?_
    refine Hd.thenExit ?_
    refine Hd.thenExit ?_
    refine Hd.inBexit ?_
    refine Hd.toK hK3 ?_
    refine Hd.seq (fun K8 hK8 => ?_)
    refine Hd.region ?_
    refine Hd.yv (y_move rfl) ?_
    refine Hd.yv (y_assign rfl) ?_
    refine Hd.nil ?_
    refine Hd.slots [(2, _)] ⟨rfl, trivial⟩ ?_
    refine Hd.toK hK8 ?_
    refine Hd.ret ?_
    clear hK1 hK2 hK3 hK4 hK5 hK6 hK8
    obtain rfl : k = 96 := by omega
    rw [s.flt_96]
    exact Hd.ret1 rfl (ad, cap) rfl (Ent.sep (by repeat (first | with_reducible exact Ent.same | exact Ent.nil | with_reducible exact Ent.left | (apply Ent.pick; focus ((repeat (first | with_reducible exact Pick.here | apply Pick.there | with_reducible apply Pick.right)); done)) | refine Ent.pure (by assumption) ?_ | apply Ent.ownNil | with_reducible apply Ent.right | exact Ent.left | exact Ent.same | refine Ent.skip ?_)))
theorem allEq_encC (x y : CT) : allEq (encC x) (encC y) = decide (x = y) := by
  obtain ⟨a, b, c⟩ := x
  obtain ⟨a', b', c'⟩ := y
  simp [allEq, eqv, Prod.ext_iff, Bool.and_assoc]
theorem sameC_ct (L : List SP) (ad1 ad2 : Option Addr) (c1 c2 : Nat) (xs ys : List CT) (h1 : RdS L 3 ad1 xs.length (xs.flatMap encC)) (h2 : RdS L 3 ad2 ys.length (ys.flatMap encC)) (hb : xs.length ≤ 9223372036854775807) :
    Ct Try.prog 21 #[.slice ad1 xs.length c1, .slice ad2 ys.length c2] L (fun _ : Unit => .bool (decide (xs = ys))) (fun _ => L) := by
  refine Ct.of (vs := [.slice ad1 xs.length c1, .slice ad2 ys.length c2]) Try.func21 rfl rfl [(0, .slice ad1 xs.length c1), (1, .slice ad2 ys.length c2)] ⟨rfl, rfl, trivial⟩ ?_
  intro E
  show Hd E 26 _ _ _ _
  refine Hd.seq (fun K1 hK1 => ?_)
  refine Hd.region ?_
  refine Hd.yv (y_assign rfl) ?_
  refine Hd.nil ?_
  refine Hd.slots [(0, _), (1, _)] ⟨rfl, rfl, trivial⟩ ?_
  refine Hd.toK hK1 ?_
  refine Hd.seq (fun K2 hK2 => ?_)
  refine Hd.seq (fun K3 hK3 => ?_)
  refine Hd.region ?_
  refine Hd.yv (y_move rfl) ?_
  refine Hd.yv (y_len Try.underlying42 rfl) ?_
  refine Hd.yv (y_move rfl) ?_
  refine Hd.yv (y_len Try.underlying42 rfl) ?_
  refine Hd.yv (y_neq rfl rfl) ?_
  refine Hd.nil ?_
  refine Hd.slots [(0, _), (1, _), (10, _)] ⟨rfl, rfl, rfl, trivial⟩ ?_
  refine Hd.toK hK3 ?_
  refine Hd.cond rfl (fun hc0 => ?_) (fun hc0 => ?_)
  ·
    try simp only [decide_eq_true_eq, decide_eq_false_iff_not, Bool.and_eq_true, Bool.or_eq_true, Bool.and_eq_false_iff, Bool.or_eq_false_iff, Bool.not_eq_true', Bool.not_eq_false', Bool.not_eq_true, Bool.not_eq_false, Int.not_lt, Int.not_le, Decidable.not_not, ne_eq] at hc0
    refine Hd.seq (fun K4 hK4 => ?_)
    refine Hd.region ?_
    refine Hd.yv (y_assign rfl) ?_
    refine Hd.nil ?_
    refine Hd.slots [(4, _)] ⟨rfl, trivial⟩ ?_
    refine Hd.toK hK4 ?_
    refine Hd.ret ?_
    refine Hd.thenRet ?_
    clear hK1 hK2 hK3 hK4
    exact Hd.ret1 rfl () (by rw [decide_eq_false (by intro e; subst e; exact hc0 rfl)]; rfl) (Ent.sep (by repeat (first | with_reducible exact Ent.same | exact Ent.nil | with_reducible exact Ent.left | (apply Ent.pick; focus ((repeat (first | with_reducible exact Pick.here | apply Pick.there | with_reducible apply Pick.right)); done)) | refine Ent.pure (by assumption) ?_ | apply Ent.ownNil | with_reducible apply Ent.right | exact Ent.left | exact Ent.same | refine Ent.skip ?_)))
  ·
    try simp only [decide_eq_true_eq, decide_eq_false_iff_not, Bool.and_eq_true, Bool.or_eq_true, Bool.and_eq_false_iff, Bool.or_eq_false_iff, Bool.not_eq_true', Bool.not_eq_false', Bool.not_eq_true, Bool.not_eq_false, Int.not_lt, Int.not_le, Decidable.not_not, ne_eq] at hc0
    refine Hd.skip ?_
    refine Hd.toK hK2 ?_
    refine Hd.seq (fun K5 hK5 => ?_)
    refine Hd.seq (fun K6 hK6 => ?_)
    refine Hd.region ?_
    refine Hd.yv (y_assign rfl) ?_
    refine Hd.nil ?_
    refine Hd.slots [(0, _), (1, _), (5, _)] ⟨rfl, rfl, rfl, trivial⟩ ?_
    refine Hd.toK hK6 ?_
    refine Hd.block ?_
    refine Hd.loop (ι := {i : Nat // i ≤ xs.length ∧ ∀ j, j < i → xs[j]? = ys[j]?}) (fun i => [(0, .slice ad1 xs.length c1), (1, .slice ad2 ys.length c2), (5, .int .i64 (i.1 : Int))]) (fun _ => L) (fun i => xs.length - i.1) ⟨0, by omega, by omega⟩ ⟨rfl, rfl, rfl, trivial⟩ (fun _ h => h) ?_
    rintro ⟨i, hi, hp⟩
    refine Hd.seq (fun K7 hK7 => ?_)
    refine Hd.seq (fun K8 hK8 => ?_)
    refine Hd.region ?_
    refine Hd.yv (y_move rfl) ?_
    refine Hd.yv (y_move rfl) ?_
    refine Hd.yv (y_len Try.underlying42 rfl) ?_
    refine Hd.yv (y_lss rfl rfl) ?_
    refine Hd.nil ?_
    refine Hd.slots [(0, _), (1, _), (5, _), (14, _)] ⟨rfl, rfl, rfl, rfl, trivial⟩ ?_
    refine Hd.toK hK8 ?_
    refine Hd.cond rfl (fun hc1 => ?_) (fun hc1 => ?_)
    ·
      try simp only [decide_eq_true_eq, decide_eq_false_iff_not, Bool.and_eq_true, Bool.or_eq_true, Bool.and_eq_false_iff, Bool.or_eq_false_iff, Bool.not_eq_true', Bool.not_eq_false', Bool.not_eq_true, Bool.not_eq_false, Int.not_lt, Int.not_le, Decidable.not_not, ne_eq] at hc1
      have hxi : i < xs.length := by omega
      have hyi : i < ys.length := by omega
      have hx : xs[i]? = some xs[i] := List.getElem?_eq_getElem hxi
      have hy : ys[i]? = some ys[i] := List.getElem?_eq_getElem hyi
      refine Hd.skip ?_
      refine Hd.toK hK7 ?_
      refine Hd.seq (fun K9 hK9 => ?_)
      refine Hd.block ?_
      refine Hd.seq (fun K10 hK10 => ?_)
      refine Hd.quiet mixed (by kernel_rfl) ?_
      refine Hq.yv (y_move rfl) ?_
      refine Hq.yv (y_move rfl) ?_
      first | (refine Hq.yv (y_idxS Try.underlying42 sz27 rfl rfl (by first | omega | decide)) ?_) | (refine Hq.yv (y_idxR Try.underlying42 sz27 rfl rfl (by first | omega | decide) (by (first | exact RdS.own (by repeat (first | with_reducible exact Pick.here | apply Pick.there | with_reducible apply Pick.right)) | exact h1 | exact h2))) ?_)
      refine Hq.yv (y_loadRn ag27 rfl h1 (flat_cells encC 3 (fun _ => rfl) hx) (by exact sz27) (by simp)) ?_
      refine Hq.yv (y_move rfl) ?_
      refine Hq.yv (y_move rfl) ?_
      first | (refine Hq.yv (y_idxS Try.underlying42 sz27 rfl rfl (by first | omega | decide)) ?_) | (refine Hq.yv (y_idxR Try.underlying42 sz27 rfl rfl (by first | omega | decide) (by (first | exact RdS.own (by repeat (first | with_reducible exact Pick.here | apply Pick.there | with_reducible apply Pick.right)) | exact h1 | exact h2))) ?_)
      refine Hq.yv (y_loadRn ag27 rfl h2 (flat_cells encC 3 (fun _ => rfl) hy) (by exact sz27) (by simp)) ?_
      refine Hq.yv (y_neq_agg rfl rfl eqt27 rfl ⟨rfl, rfl⟩) ?_
      refine Hq.nil ?_
      refine Hd.slots [(0, _), (1, _), (5, _), (25, _)] ⟨rfl, rfl, rfl, rfl, trivial⟩ ?_
      refine Hd.toK hK10 ?_
      refine Hd.cond rfl (fun hc2 => ?_) (fun hc2 => ?_)
      ·
        try simp only [decide_eq_true_eq, decide_eq_false_iff_not, Bool.and_eq_true, Bool.or_eq_true, Bool.and_eq_false_iff, Bool.or_eq_false_iff, Bool.not_eq_true', Bool.not_eq_false', Bool.not_eq_true, Bool.not_eq_false, Int.not_lt, Int.not_le, Decidable.not_not, ne_eq] at hc2
        refine Hd.seq (fun K11 hK11 => ?_)
        refine Hd.region ?_
        refine Hd.yv (y_assign rfl) ?_
        refine Hd.nil ?_
        refine Hd.slots [(4, _)] ⟨rfl, trivial⟩ ?_
        refine Hd.toK hK11 ?_
        refine Hd.ret ?_
        refine Hd.inBret ?_
        refine Hd.thenRet ?_
        refine Hd.thenRet ?_
        refine Hd.inBret ?_
        refine Hd.thenRet ?_
        clear hK1 hK2 hK3 hK5 hK6 hK7 hK8 hK9 hK10 hK11
        refine Hd.ret1 rfl () ?_ (Ent.sep (by repeat (first | with_reducible exact Ent.same | exact Ent.nil | with_reducible exact Ent.left | (apply Ent.pick; focus ((repeat (first | with_reducible exact Pick.here | apply Pick.there | with_reducible apply Pick.right)); done)) | refine Ent.pure (by assumption) ?_ | apply Ent.ownNil | with_reducible apply Ent.right | exact Ent.left | exact Ent.same | refine Ent.skip ?_)))
        rw [decide_eq_false (by
          intro e; subst e
          simp [allEq_encC] at hc2)]; rfl
      ·
        try simp only [decide_eq_true_eq, decide_eq_false_iff_not, Bool.and_eq_true, Bool.or_eq_true, Bool.and_eq_false_iff, Bool.or_eq_false_iff, Bool.not_eq_true', Bool.not_eq_false', Bool.not_eq_true, Bool.not_eq_false, Int.not_lt, Int.not_le, Decidable.not_not, ne_eq] at hc2
        refine Hd.skip ?_
        refine Hd.inB ?_
        refine Hd.toK hK9 ?_
        refine Hd.region ?_
        refine Hd.yv (y_move rfl) ?_
        first | (refine Hd.yv (y_addn rfl rfl (by simp only [InK]; omega)) ?_) | (refine Hd.yv (y_add rfl rfl) ?_)
        refine Hd.yv (y_assign rfl) ?_
        refine Hd.nil ?_
        refine Hd.slots [(0, _), (1, _), (5, _)] ⟨rfl, rfl, rfl, trivial⟩ ?_
        clear hK1 hK2 hK3 hK5 hK6 hK7 hK8 hK9 hK10
        refine Hd.thenN ?_
        refine Hd.again ⟨i + 1, by omega, fun j hj => ?_⟩ (by simp only; omega) ⟨rfl, rfl, rfl, trivial⟩ (fun _ h => h)
        rcases Nat.lt_succ_iff_lt_or_eq.1 hj with h | h
        · exact hp j h
        · subst h; rw [hx, hy]; simpa [allEq_encC] using hc2
    ·
      try simp only [decide_eq_true_eq, decide_eq_false_iff_not, Bool.and_eq_true, Bool.or_eq_true, Bool.and_eq_false_iff, Bool.or_eq_false_iff, Bool.not_eq_true', Bool.not_eq_false', Bool.not_eq_true, Bool.not_eq_false, Int.not_lt, Int.not_le, Decidable.not_not, ne_eq] at hc1
      refine Hd.exit ?_
      refine Hd.thenExit ?_
      refine Hd.thenExit ?_
      refine Hd.inBexit ?_
      refine Hd.toK hK5 ?_
      refine Hd.seq (fun K12 hK12 => ?_)
      refine Hd.region ?_
      refine Hd.yv (y_assign rfl) ?_
      refine Hd.nil ?_
      refine Hd.slots [(4, _)] ⟨rfl, trivial⟩ ?_
      refine Hd.toK hK12 ?_
      refine Hd.ret ?_
      clear hK1 hK2 hK3 hK5 hK6 hK7 hK8 hK12
      refine Hd.ret1 rfl () ?_ (Ent.sep (by repeat (first | with_reducible exact Ent.same | exact Ent.nil | with_reducible exact Ent.left | (apply Ent.pick; focus ((repeat (first | with_reducible exact Pick.here | apply Pick.there | with_reducible apply Pick.right)); done)) | refine Ent.pure (by assumption) ?_ | apply Ent.ownNil | with_reducible apply Ent.right | exact Ent.left | exact Ent.same | refine Ent.skip ?_)))
      rw [decide_eq_true (by
        apply List.ext_getElem?
        intro j
        by_cases hj : j < i
        · exact hp j hj
        · rw [List.getElem?_eq_none (by omega), List.getElem?_eq_none (by omega)])]; rfl
end Cl
end Go.Proofs.Ytkgkfjhfedjnpaa
