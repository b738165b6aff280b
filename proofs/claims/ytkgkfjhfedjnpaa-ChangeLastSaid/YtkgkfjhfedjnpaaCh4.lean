/-
  The chapter's first examples; and that the law ChangeFlushes answers true.
-/
import Derived.Test.YtkgkfjhfedjnpaaCh3
namespace Go.Proofs.Ytkgkfjhfedjnpaa
set_option linter.unusedSimpArgs false
set_option linter.unusedVariables false
set_option linter.unnecessarySimpa false
open Go.RX
namespace Cl4
open Cl
theorem ag3 : agk Try.prog 3 = some false := by kernel_rfl
theorem sz3 : szk Try.prog 3 = some 1 := by kernel_rfl
theorem zr3 : zrk Try.prog 3 = some ([.int .i64 0]) := by kernel_rfl
theorem ty3 : tyr Try.prog 3 = some (1, 8, 1) := by kernel_rfl
theorem ag4 : agk Try.prog 4 = some false := by kernel_rfl
theorem sz4 : szk Try.prog 4 = some 1 := by kernel_rfl
theorem zr4 : zrk Try.prog 4 = some ([.bool false]) := by kernel_rfl
theorem ty4 : tyr Try.prog 4 = some (1, 1, 1) := by kernel_rfl
theorem ag27 : agk Try.prog 27 = some true := by kernel_rfl
theorem sz27 : szk Try.prog 27 = some 3 := by kernel_rfl
theorem zr27 : zrk Try.prog 27 = some ([.int .i64 0, .int .i64 0, .int .i64 0]) := by kernel_rfl
theorem ty27 : tyr Try.prog 27 = some (3, 24, 3) := by kernel_rfl
theorem ag34 : agk Try.prog 34 = some false := by kernel_rfl
theorem sz34 : szk Try.prog 34 = some 1 := by kernel_rfl
theorem zr34 : zrk Try.prog 34 = some ([.slice none 0 0]) := by kernel_rfl
theorem ty34 : tyr Try.prog 34 = some (1, 24, 1) := by kernel_rfl
theorem ag36 : agk Try.prog 36 = some false := by kernel_rfl
theorem sz36 : szk Try.prog 36 = some 1 := by kernel_rfl
theorem zr36 : zrk Try.prog 36 = some ([.pointer none]) := by kernel_rfl
theorem ty36 : tyr Try.prog 36 = some (1, 8, 1) := by kernel_rfl
theorem ag38 : agk Try.prog 38 = some false := by kernel_rfl
theorem sz38 : szk Try.prog 38 = some 1 := by kernel_rfl
theorem zr38 : zrk Try.prog 38 = some ([.int .i64 0]) := by kernel_rfl
theorem ty38 : tyr Try.prog 38 = some (1, 8, 1) := by kernel_rfl
theorem ag41 : agk Try.prog 41 = some true := by kernel_rfl
theorem sz41 : szk Try.prog 41 = some 3 := by kernel_rfl
theorem zr41 : zrk Try.prog 41 = some ([.int .i64 0, .int .i64 0, .int .i64 0]) := by kernel_rfl
theorem ty41 : tyr Try.prog 41 = some (3, 24, 3) := by kernel_rfl
theorem ag42 : agk Try.prog 42 = some false := by kernel_rfl
theorem sz42 : szk Try.prog 42 = some 1 := by kernel_rfl
theorem zr42 : zrk Try.prog 42 = some ([.slice none 0 0]) := by kernel_rfl
theorem ty42 : tyr Try.prog 42 = some (1, 24, 1) := by kernel_rfl
theorem fk17 : fnk Try.prog 17 = true := by kernel_rfl
theorem fk18 : fnk Try.prog 18 = true := by kernel_rfl
theorem fk19 : fnk Try.prog 19 = true := by kernel_rfl
theorem fk20 : fnk Try.prog 20 = true := by kernel_rfl
theorem fk21 : fnk Try.prog 21 = true := by kernel_rfl
theorem fk22 : fnk Try.prog 22 = true := by kernel_rfl
theorem fk23 : fnk Try.prog 23 = true := by kernel_rfl
theorem fk24 : fnk Try.prog 24 = true := by kernel_rfl
theorem fk26 : fnk Try.prog 26 = true := by kernel_rfl
theorem mixed : Try.prog.follows .mixedOrders = true := by kernel_rfl
theorem bd17_27  : Try.prog.built 27 [(0, .int .i64 1), (2, .int .i64 36)] = some #[.int .i64 1, .int .i64 0, .int .i64 36] := by kernel_rfl
theorem bs17_28 (x1 : Int) (x2 : Int) (x3 : Int) : bltS Try.prog 42 1 [(0, .agg #[.int .i64 x1, .int .i64 x2, .int .i64 x3])] = some (27, [.int .i64 x1, .int .i64 x2, .int .i64 x3]) := by kernel_rfl
def aliveS : LS := ((LS.zero.want 3 2).want 1 36).want 3 0
theorem alive_e1 : wantE 3 2 = 0 := by decide
theorem alive_e2 : wantE 1 36 = 0 := by decide
theorem alive_e3 : wantE 3 0 = 0 := by decide
theorem alive_chs : aliveS.chs 96 = [(1, 0, 36)] := by decide +kernel
theorem alive_ct (L : List SP) : Ct Try.prog 17 #[] L (fun _ : Unit => .bool true) (fun _ => L) := by
  refine Ct.of (vs := []) Try.func17 rfl rfl [] trivial ?_
  intro E
  show Hd E 31 _ _ _ _
  refine Hd.seq (fun K1 hK1 => ?_)
  refine Hd.region ?_
  refine Hd.yv (y_assign rfl) ?_
  refine Hd.nil ?_
  refine Hd.slots [] trivial ?_
  refine Hd.toK hK1 ?_
  refine Hd.seq (fun K2 hK2 => ?_)
  refine Hd.region ?_
  refine Hd.callE rfl fk18 (new_ct _) (Ent.sep (by repeat (first | with_reducible exact Ent.same | exact Ent.nil | with_reducible exact Ent.left | (apply Ent.pick; focus ((repeat (first | with_reducible exact Pick.here | apply Pick.there | with_reducible apply Pick.right)); done)) | refine Ent.pure (by assumption) ?_ | apply Ent.ownNil | with_reducible apply Ent.right | exact Ent.left | exact Ent.same | refine Ent.skip ?_))) ?_
  intro b
  refine Hd.yv (y_assign rfl) ?_
  refine Hd.nil ?_
  refine Hd.slots [(1, _)] ⟨rfl, trivial⟩ ?_
  refine Hd.toK hK2 ?_
  refine Hd.seq (fun K3 hK3 => ?_)
  refine Hd.region ?_
  refine Hd.yv (y_move rfl) ?_
  refine Hd.callE rfl fk19 (want_ct _ b LS.zero 3 2) (Ent.sep (by repeat (first | with_reducible exact Ent.same | exact Ent.nil | with_reducible exact Ent.left | (apply Ent.pick; focus ((repeat (first | with_reducible exact Pick.here | apply Pick.there | with_reducible apply Pick.right)); done)) | refine Ent.pure (by assumption) ?_ | apply Ent.ownNil | with_reducible apply Ent.right | exact Ent.left | exact Ent.same | refine Ent.skip ?_))) ?_
  intro _
  rw [alive_e1]
  refine Hd.yv (y_move rfl) ?_
  refine Hd.callE rfl fk19 (want_ct _ b (LS.zero.want 3 2) 1 36) (Ent.sep (by repeat (first | with_reducible exact Ent.same | exact Ent.nil | with_reducible exact Ent.left | (apply Ent.pick; focus ((repeat (first | with_reducible exact Pick.here | apply Pick.there | with_reducible apply Pick.right)); done)) | refine Ent.pure (by assumption) ?_ | apply Ent.ownNil | with_reducible apply Ent.right | exact Ent.left | exact Ent.same | refine Ent.skip ?_))) ?_
  intro _
  rw [alive_e2]
  refine Hd.yv (y_move rfl) ?_
  refine Hd.callE rfl fk19 (want_ct _ b ((LS.zero.want 3 2).want 1 36) 3 0) (Ent.sep (by repeat (first | with_reducible exact Ent.same | exact Ent.nil | with_reducible exact Ent.left | (apply Ent.pick; focus ((repeat (first | with_reducible exact Pick.here | apply Pick.there | with_reducible apply Pick.right)); done)) | refine Ent.pure (by assumption) ?_ | apply Ent.ownNil | with_reducible apply Ent.right | exact Ent.left | exact Ent.same | refine Ent.skip ?_))) ?_
  intro _
  rw [alive_e3]
  refine Hd.yv (y_assign rfl) ?_
  refine Hd.yv (y_assign rfl) ?_
  refine Hd.yv (y_assign rfl) ?_
  refine Hd.nil ?_
  refine Hd.slots [(1, _), (2, _), (3, _), (4, _)] ⟨rfl, rfl, rfl, rfl, trivial⟩ ?_
  refine Hd.toK hK3 ?_
  refine Hd.seq (fun K4 hK4 => ?_)
  refine Hd.region ?_
  refine Hd.yv (y_move rfl) ?_
  refine Hd.callE rfl fk22 (changes_ct _ b aliveS) (Ent.sep (by repeat (first | with_reducible exact Ent.same | exact Ent.nil | with_reducible exact Ent.left | (apply Ent.pick; focus ((repeat (first | with_reducible exact Pick.here | apply Pick.there | with_reducible apply Pick.right)); done)) | refine Ent.pure (by assumption) ?_ | apply Ent.ownNil | with_reducible apply Ent.right | exact Ent.left | exact Ent.same | refine Ent.skip ?_))) ?_
  rintro ⟨ad, cap⟩
  dsimp only
  rw [alive_chs]
  refine Hd.yv (y_assign rfl) ?_
  refine Hd.nil ?_
  refine Hd.slots [(2, _), (3, _), (4, _), (5, _)] ⟨rfl, rfl, rfl, rfl, trivial⟩ ?_
  refine Hd.toK hK4 ?_
  refine Hd.seq (fun K5 hK5 => ?_)
  refine Hd.region ?_
  refine Hd.yv (y_move rfl) ?_
  first | (refine Hd.yv (y_eqlT rfl rfl) ?_) | (refine Hd.yv (y_eql rfl rfl) ?_)
  refine Hd.yv (y_move rfl) ?_
  refine Hd.yg rfl rfl (y_move rfl) ?_
  first | (refine Hd.yg rfl rfl (y_eqlT rfl rfl) ?_) | (refine Hd.yg rfl rfl (y_eql rfl rfl) ?_)
  first | (refine Hd.yv (y_pickT rfl rfl) ?_) | (refine Hd.yv (y_pickF rfl rfl) ?_) | (refine Hd.yv (y_pickb rfl rfl rfl) ?_) | (refine Hd.yv (y_pick rfl rfl rfl) ?_)
  refine Hd.yv (y_move rfl) ?_
  refine Hd.yg rfl rfl (y_move rfl) ?_
  first | (refine Hd.yg rfl rfl (y_eqlT rfl rfl) ?_) | (refine Hd.yg rfl rfl (y_eql rfl rfl) ?_)
  first | (refine Hd.yv (y_pickT rfl rfl) ?_) | (refine Hd.yv (y_pickF rfl rfl) ?_) | (refine Hd.yv (y_pickb rfl rfl rfl) ?_) | (refine Hd.yv (y_pick rfl rfl rfl) ?_)
  refine Hd.yv (y_move rfl) ?_
  refine Hd.yg rfl rfl (y_move rfl) ?_
  refine Hd.yg rfl rfl (y_build (vs := [(0, _), (2, _)]) rfl (by first | exact bd17_27 .. | kernel_rfl)) ?_
  refine Hd.unguard rfl rfl ?_
  refine Hd.bslice (vs := [(0, _)]) rfl (by first | exact bs17_28 .. | kernel_rfl) (fun b28 => ?_)
  refine Hd.unguard rfl rfl ?_
  refine Hd.call rfl fk21 (sameC_ct _ ad (some ⟨b28, 0, none⟩) _ _ [(1, 0, 36)] [(1, 0, 36)] (RdS.own (by repeat (first | with_reducible exact Pick.here | apply Pick.there | with_reducible apply Pick.right))) (RdS.rd (Rd.pt (by repeat (first | with_reducible exact Pick.here | apply Pick.there | with_reducible apply Pick.right)) (fun j v e => by simpa using e)) rfl) (by simp)) ?_
  intro _
  first | (refine Hd.yv (y_pickT rfl rfl) ?_) | (refine Hd.yv (y_pickF rfl rfl) ?_) | (refine Hd.yv (y_pickb rfl rfl rfl) ?_) | (refine Hd.yv (y_pick rfl rfl rfl) ?_)
  refine Hd.yv (y_assign rfl) ?_
  refine Hd.nil ?_
  refine Hd.slots [(0, _)] ⟨rfl, trivial⟩ ?_
  refine Hd.toK hK5 ?_
  refine Hd.ret ?_
  clear hK1 hK2 hK3 hK4 hK5
  exact Hd.ret1 rfl () rfl (Ent.sep (by repeat (first | with_reducible exact Ent.same | exact Ent.nil | with_reducible exact Ent.left | (apply Ent.pick; focus ((repeat (first | with_reducible exact Pick.here | apply Pick.there | with_reducible apply Pick.right)); done)) | refine Ent.pure (by assumption) ?_ | apply Ent.ownNil | with_reducible apply Ent.right | exact Ent.left | exact Ent.same | refine Ent.skip ?_)))

/-! ChangeFlushes: the plain law -/
theorem chs_nil {s : LS} (h : ∀ i, i < 96 → s.h.getD i 0 = s.w.getD i 0) : ∀ k, k ≤ 96 → s.chs k = []
  | 0, _ => rfl
  | k + 1, hk => by
    have := chs_nil h k (by omega)
    simp only [LS.chs, LS.chg, this, h k (by omega), if_true, List.append_nil]
theorem chs_one {s : LS} {j : Nat} (h : ∀ i, i < 96 → i ≠ j → s.h.getD i 0 = s.w.getD i 0) : ∀ k, k ≤ 96 → (s.chs k).length = if j < k ∧ s.h.getD j 0 ≠ s.w.getD j 0 then 1 else 0
  | 0, _ => by simp [LS.chs]
  | k + 1, hk => by
    have := chs_one h k (by omega)
    simp only [LS.chs, List.length_append, this, LS.chg]
    by_cases hj : k = j
    · subst hj
      rw [if_neg (fun h => Nat.lt_irrefl _ h.1)]
      by_cases he : s.h.getD k 0 = s.w.getD k 0
      · rw [if_pos he, if_neg (fun h => h.2 he)]; rfl
      · rw [if_neg he, if_pos ⟨Nat.lt_succ_self k, he⟩]; rfl
    · rw [h k (by omega) hj]
      by_cases hlt : j < k
      · simp [hlt, show j < k + 1 by omega]
      · simp [hlt, show ¬ j < k + 1 by omega]
theorem getD_set (l : List Int) (i j : Nat) (x : Int) (hi : i < l.length) : (l.set i x).getD j 0 = if i = j then x else l.getD j 0 := by
  simp only [List.getD_eq_getElem?_getD, List.getElem?_set]
  by_cases h : i = j
  · subst h; simp [hi]
  · simp [h]
/-- what is wanted may be -/
def OkW (s : LS) : Prop := ∀ i, i < 96 → mayB (s.w.getD i 0) = true
theorem may0 : mayB 0 = true := by decide
theorem okW_zero : OkW LS.zero := fun i hi => by
  have : ∀ i, i < 96 → LS.zero.w.getD i 0 = 0 := by decide +kernel
  rw [this i hi]; exact may0
theorem okW_setw {s : LS} (h : OkW s) {j : Nat} (hj : j < 96) {x : Int} (hx : mayB x = true) : OkW (s.setw j x) := fun i hi => by
  show mayB ((s.w.set j x).getD i 0) = true
  rw [getD_set _ _ _ _ (by rw [s.hw]; exact hj)]
  split
  · exact hx
  · exact h i hi
theorem inB_lt {fd : Int} (h : inB fd = true) : fd.toNat < 96 ∧ 0 ≤ fd := by
  simp only [inB, Bool.and_eq_true, decide_eq_true_eq] at h; omega
theorem okW_want {s : LS} (h : OkW s) (fd x : Int) : OkW (s.want fd x) := by
  unfold LS.want
  split
  · rename_i hc
    simp only [Bool.and_eq_true] at hc
    exact okW_setw h (inB_lt hc.1).1 hc.2
  · exact h
theorem okW_forget {s : LS} (h : OkW s) (fd : Int) : OkW (s.forget fd) := by
  unfold LS.forget
  split
  · rename_i hc
    exact okW_setw (s := s.seth fd.toNat 0) h (inB_lt hc).1 may0
  · exact h
theorem okW_flush {s : LS} (h : OkW s) : OkW s.flush := h
theorem flush_chs (s : LS) : s.flush.chs 96 = [] := chs_nil (fun _ _ => rfl) 96 (by omega)
theorem flush_wants (s : LS) (fd : Int) : s.flush.wants fd = s.flush.held fd := rfl
theorem want_held (s : LS) (fd x : Int) (n : Int) : (s.want fd x).held n = s.held n := by
  unfold LS.want; split <;> rfl
theorem flush_want_len (s : LS) (fd x : Int) : ((s.flush.want fd x).chs 96).length = if wantE fd x = 0 ∧ x ≠ s.flush.wants fd then 1 else 0 := by
  unfold LS.want wantE
  by_cases hc : (inB fd && mayB x) = true
  · rw [if_pos hc, if_pos hc]
    simp only [Bool.and_eq_true] at hc
    have hj := inB_lt hc.1
    have hw := s.hw
    have := chs_one (s := s.flush.setw fd.toNat x) (j := fd.toNat) (fun i hi hne => by
      show s.w.getD i 0 = (s.w.set fd.toNat x).getD i 0
      rw [getD_set _ _ _ _ (by omega), if_neg (Ne.symm hne)]) 96 (by omega)
    rw [this]
    have e1 : (s.flush.setw fd.toNat x).w.getD fd.toNat 0 = x := by
      show (s.w.set fd.toNat x).getD fd.toNat 0 = x
      rw [getD_set _ _ _ _ (by omega), if_pos rfl]
    have e2 : (s.flush.setw fd.toNat x).h.getD fd.toNat 0 = s.flush.wants fd := by simp [LS.wants, hc.1]; rfl
    rw [e1, e2]
    simp [hj.1, ne_comm]
  · rw [if_neg hc, if_neg hc, flush_chs]; simp
theorem flush_back (s : LS) (ho : OkW s) (fd x : Int) : ((s.flush.want fd x).want fd (s.flush.wants fd)).chs 96 = [] ∧ (wantE fd x = 0 → wantE fd (s.flush.wants fd) = 0) := by
  have hw := s.hw
  have key : ∀ (j : Nat) (y : Int), j < 96 → y = s.w.getD j 0 → ∀ z, ((s.flush.setw j z).setw j y).chs 96 = [] := fun j y hj hy z => chs_nil (fun i hi => by
    show s.w.getD i 0 = ((s.w.set j z).set j y).getD i 0
    rw [List.set_set, getD_set _ _ _ _ (by omega)]
    split
    · rename_i e; subst e; exact hy.symm
    · rfl) 96 (by omega)
  have key2 : ∀ (j : Nat) (y : Int), j < 96 → y = s.w.getD j 0 → (s.flush.setw j y).chs 96 = [] := fun j y hj hy => chs_nil (fun i hi => by
    show s.w.getD i 0 = (s.w.set j y).getD i 0
    rw [getD_set _ _ _ _ (by omega)]
    split
    · rename_i e; subst e; exact hy.symm
    · rfl) 96 (by omega)
  by_cases hin : inB fd = true
  · have hj := inB_lt hin
    have hwas : s.flush.wants fd = s.w.getD fd.toNat 0 := by simp [LS.wants, hin]; rfl
    have hm : mayB (s.flush.wants fd) = true := by rw [hwas]; exact ho _ hj.1
    refine ⟨?_, fun _ => by simp [wantE, hin, hm]⟩
    unfold LS.want
    by_cases hc : mayB x = true
    · simp only [hin, hm, hc, Bool.and_self, if_true]
      exact key _ _ hj.1 hwas _
    · have hc' : mayB x = false := by simpa using hc
      simp only [hin, hm, hc', Bool.true_and, if_true, Bool.false_eq_true, if_false]
      exact key2 _ _ hj.1 hwas
  · have hin' : inB fd = false := by simpa using hin
    refine ⟨?_, fun h => by simp [wantE, hin'] at h⟩
    unfold LS.want
    simp only [hin', Bool.false_and]
    exact flush_chs s
abbrev encO (o : Int × Int × Int) : List Value := [.int .i64 o.1, .int .i64 o.2.1, .int .i64 o.2.2]
theorem op_at {xs : List (Int × Int × Int)} {i : Nat} {o : Int × Int × Int} (h : xs[i]? = some o) : (xs.flatMap encO)[i * 3 + 0]? = some (.int .i64 o.1) ∧ (xs.flatMap encO)[i * 3 + 1]? = some (.int .i64 o.2.1) ∧ (xs.flatMap encO)[i * 3 + 2]? = some (.int .i64 o.2.2) :=
  ⟨flat_cells encO 3 (fun _ => rfl) h 0 _ rfl, flat_cells encO 3 (fun _ => rfl) h 1 _ rfl, flat_cells encO 3 (fun _ => rfl) h 2 _ rfl⟩
theorem flushes_ct (L : List SP) (ad : Option Addr) (c : Nat) (xs : List (Int × Int × Int)) (fd x : Int) (hR : RdS L 3 ad xs.length (xs.flatMap encO)) :
    Ct Try.prog 8 #[.slice ad xs.length c, .int .i64 fd, .int .i64 x] L (fun _ : Unit => .bool true) (fun _ => L) := by
  refine Ct.of (vs := [.slice ad xs.length c, .int .i64 fd, .int .i64 x]) Try.func8 rfl rfl [(0, .slice ad xs.length c), (1, .int .i64 fd), (2, .int .i64 x)] ⟨rfl, rfl, rfl, trivial⟩ ?_
  intro E
  show Hd E 126 _ _ _ _
  refine Hd.seq (fun K1 hK1 => ?_)
  refine Hd.region ?_
  refine Hd.yv (y_assign rfl) ?_
  refine Hd.nil ?_
  refine Hd.slots [(0, _), (1, _), (2, _)] ⟨rfl, rfl, rfl, trivial⟩ ?_
  refine Hd.toK hK1 ?_
  refine Hd.seq (fun K2 hK2 => ?_)
  refine Hd.region ?_
  refine Hd.callE rfl fk17 (alive_ct _) (Ent.sep (by repeat (first | with_reducible exact Ent.same | exact Ent.nil | with_reducible exact Ent.left | (apply Ent.pick; focus ((repeat (first | with_reducible exact Pick.here | apply Pick.there | with_reducible apply Pick.right)); done)) | refine Ent.pure (by assumption) ?_ | apply Ent.ownNil | with_reducible apply Ent.right | exact Ent.left | exact Ent.same | refine Ent.skip ?_))) ?_
  intro _
  refine Hd.yv (y_assign rfl) ?_
  refine Hd.nil ?_
  refine Hd.slots [(0, _), (1, _), (2, _), (7, _)] ⟨rfl, rfl, rfl, rfl, trivial⟩ ?_
  refine Hd.toK hK2 ?_
  refine Hd.seq (fun K3 hK3 => ?_)
  refine Hd.seq (fun K4 hK4 => ?_)
  refine Hd.region ?_
  refine Hd.yv (y_move rfl) ?_
  refine Hd.yv (y_len Try.underlying34 rfl) ?_
  refine Hd.yv (y_gtr rfl rfl) ?_
  refine Hd.yv (y_move rfl) ?_
  apply Hd.org 3 19 22 [(0, _), (1, _), (2, _), (7, _)] rfl ⟨rfl, rfl, rfl, rfl, trivial⟩
  · intro hg2_19
    try simp only [decide_eq_true_eq, decide_eq_false_iff_not, Bool.and_eq_true, Bool.or_eq_true, Bool.and_eq_false_iff, Bool.or_eq_false_iff, Bool.not_eq_true', Bool.not_eq_false', Bool.not_eq_true, Bool.not_eq_false, Int.not_lt, Int.not_le, Decidable.not_not, ne_eq] at hg2_19
    simp only [List.take]
    refine Hd.ng rfl rfl rfl ?_
    refine Hd.ng rfl rfl rfl ?_
    first | (refine Hd.yv (y_pickT rfl rfl) ?_) | (refine Hd.yv (y_pickF rfl rfl) ?_) | (refine Hd.yv (y_pickb rfl rfl rfl) ?_) | (refine Hd.yv (y_pick rfl rfl rfl) ?_)
    refine Hd.nil ?_
    exact Hd.mend (by repeat (first | exact trivial | refine ⟨rfl, ?_⟩)) (Ent.sep (by repeat (first | with_reducible exact Ent.same | exact Ent.nil | with_reducible exact Ent.left | (apply Ent.pick; focus ((repeat (first | with_reducible exact Pick.here | apply Pick.there | with_reducible apply Pick.right)); done)) | refine Ent.pure (by assumption) ?_ | apply Ent.ownNil | with_reducible apply Ent.right | exact Ent.left | exact Ent.same | refine Ent.skip ?_)))
  · intro hg2_19
    try simp only [decide_eq_true_eq, decide_eq_false_iff_not, Bool.and_eq_true, Bool.or_eq_true, Bool.and_eq_false_iff, Bool.or_eq_false_iff, Bool.not_eq_true', Bool.not_eq_false', Bool.not_eq_true, Bool.not_eq_false, Int.not_lt, Int.not_le, Decidable.not_not, ne_eq] at hg2_19
    simp only [List.take]
    refine Hd.yg rfl rfl (y_move rfl) ?_
    refine Hd.yg rfl rfl (y_not rfl) ?_
    first | (refine Hd.yv (y_pickT rfl rfl) ?_) | (refine Hd.yv (y_pickF rfl rfl) ?_) | (refine Hd.yv (y_pickb rfl rfl rfl) ?_) | (refine Hd.yv (y_pick rfl rfl rfl) ?_)
    refine Hd.nil ?_
    exact Hd.mend (by repeat (first | exact trivial | refine ⟨rfl, ?_⟩)) (Ent.sep (by repeat (first | with_reducible exact Ent.same | exact Ent.nil | with_reducible exact Ent.left | (apply Ent.pick; focus ((repeat (first | with_reducible exact Pick.here | apply Pick.there | with_reducible apply Pick.right)); done)) | refine Ent.pure (by assumption) ?_ | apply Ent.ownNil | with_reducible apply Ent.right | exact Ent.left | exact Ent.same | refine Ent.skip ?_)))
  simp only [List.drop]
  refine Hd.nil ?_
  refine Hd.slots [(0, _), (1, _), (2, _), (7, _), (22, _)] ⟨rfl, rfl, rfl, rfl, rfl, trivial⟩ ?_
  refine Hd.toK hK4 ?_
  refine Hd.cond rfl (fun hc0 => ?_) (fun hc0 => ?_)
  ·
    try simp only [decide_eq_true_eq, decide_eq_false_iff_not, Bool.and_eq_true, Bool.or_eq_true, Bool.and_eq_false_iff, Bool.or_eq_false_iff, Bool.not_eq_true', Bool.not_eq_false', Bool.not_eq_true, Bool.not_eq_false, Int.not_lt, Int.not_le, Decidable.not_not, ne_eq] at hc0
    refine Hd.seq (fun K5 hK5 => ?_)
    refine Hd.region ?_
    refine Hd.yv (y_move rfl) ?_
    refine Hd.yv (y_assign rfl) ?_
    refine Hd.nil ?_
    refine Hd.slots [(6, _)] ⟨rfl, trivial⟩ ?_
    refine Hd.toK hK5 ?_
    refine Hd.ret ?_
    refine Hd.thenRet ?_
    clear hK1 hK2 hK3 hK4 hK5
    exact Hd.ret1 rfl () rfl (Ent.sep (by repeat (first | with_reducible exact Ent.same | exact Ent.nil | with_reducible exact Ent.left | (apply Ent.pick; focus ((repeat (first | with_reducible exact Pick.here | apply Pick.there | with_reducible apply Pick.right)); done)) | refine Ent.pure (by assumption) ?_ | apply Ent.ownNil | with_reducible apply Ent.right | exact Ent.left | exact Ent.same | refine Ent.skip ?_)))
  ·
    try simp only [decide_eq_true_eq, decide_eq_false_iff_not, Bool.and_eq_true, Bool.or_eq_true, Bool.and_eq_false_iff, Bool.or_eq_false_iff, Bool.not_eq_true', Bool.not_eq_false', Bool.not_eq_true, Bool.not_eq_false, Int.not_lt, Int.not_le, Decidable.not_not, ne_eq] at hc0
    refine Hd.skip ?_
    refine Hd.toK hK3 ?_
    refine Hd.seq (fun K6 hK6 => ?_)
    refine Hd.region ?_
    refine Hd.callE rfl fk18 (new_ct _) (Ent.sep (by repeat (first | with_reducible exact Ent.same | exact Ent.nil | with_reducible exact Ent.left | (apply Ent.pick; focus ((repeat (first | with_reducible exact Pick.here | apply Pick.there | with_reducible apply Pick.right)); done)) | refine Ent.pure (by assumption) ?_ | apply Ent.ownNil | with_reducible apply Ent.right | exact Ent.left | exact Ent.same | refine Ent.skip ?_))) ?_
    intro b
    refine Hd.yv (y_assign rfl) ?_
    refine Hd.nil ?_
    refine Hd.slots [(0, _), (1, _), (2, _), (7, _), (8, _)] ⟨rfl, rfl, rfl, rfl, rfl, trivial⟩ ?_
    refine Hd.toK hK6 ?_
    refine Hd.seq (fun K7 hK7 => ?_)
    refine Hd.seq (fun K8 hK8 => ?_)
    refine Hd.region ?_
    refine Hd.yv (y_move rfl) ?_
    refine Hd.yv (y_len Try.underlying34 rfl) ?_
    refine Hd.yv (y_move rfl) ?_
    refine Hd.nil ?_
    refine Hd.slots [(0, _), (1, _), (2, _), (7, _), (8, _), (26, _), (27, _)] ⟨rfl, rfl, rfl, rfl, rfl, rfl, rfl, trivial⟩ ?_
    refine Hd.toK hK8 ?_
    refine Hd.block ?_
    refine Hd.loop (ι := Nat × LS) (fun i => [(0, .slice ad xs.length c), (1, .int .i64 fd), (2, .int .i64 x), (7, .bool true), (8, .pointer (some ⟨b, 0, none⟩)), (26, .int .i64 (xs.length : Int)), (27, .int .i64 (i.1 : Int))])
      (fun i => pu (i.1 ≤ xs.length ∧ OkW i.2) :: CLs b i.2 true :: L) (fun i => xs.length - i.1) (0, LS.zero) ⟨rfl, rfl, rfl, rfl, rfl, rfl, rfl, trivial⟩ (Ent.sep (.pure ⟨by simp, okW_zero⟩ (by repeat (first | with_reducible exact Ent.same | exact Ent.nil | with_reducible exact Ent.left | (apply Ent.pick; focus ((repeat (first | with_reducible exact Pick.here | apply Pick.there | with_reducible apply Pick.right)); done)) | refine Ent.pure (by assumption) ?_ | apply Ent.ownNil | with_reducible apply Ent.right | exact Ent.left | exact Ent.same | refine Ent.skip ?_)))) ?_
    rintro ⟨i, s⟩
    dsimp only
    refine Hd.pure (fun hi => ?_)
    obtain ⟨hil, hok⟩ := hi
    refine Hd.seq (fun K9 hK9 => ?_)
    refine Hd.region ?_
    refine Hd.yv (y_lss rfl rfl) ?_
    refine Hd.nil ?_
    refine Hd.slots [(0, _), (1, _), (2, _), (7, _), (8, _), (26, _), (27, _), (28, _)] ⟨rfl, rfl, rfl, rfl, rfl, rfl, rfl, rfl, trivial⟩ ?_
    refine Hd.toK hK9 ?_
    refine Hd.seq (fun K10 hK10 => ?_)
    refine Hd.cond rfl (fun hc1 => ?_) (fun hc1 => ?_)
    ·
      try simp only [decide_eq_true_eq, decide_eq_false_iff_not, Bool.and_eq_true, Bool.or_eq_true, Bool.and_eq_false_iff, Bool.or_eq_false_iff, Bool.not_eq_true', Bool.not_eq_false', Bool.not_eq_true, Bool.not_eq_false, Int.not_lt, Int.not_le, Decidable.not_not, ne_eq] at hc1
      have hi' : i < xs.length := by omega
      obtain ⟨o, ho⟩ : ∃ o, xs[i]? = some o := ⟨_, List.getElem?_eq_getElem hi'⟩
      obtain ⟨ho0, ho1, ho2⟩ := op_at ho
      refine Hd.skip ?_
      refine Hd.toK hK10 ?_
      refine Hd.seq (fun K11 hK11 => ?_)
      refine Hd.block ?_
      refine Hd.seq (fun K12 hK12 => ?_)
      refine Hd.region ?_
      refine Hd.yv (y_move rfl) ?_
      refine Hd.yv (y_assign rfl) ?_
      refine Hd.nil ?_
      refine Hd.slots [(0, _), (1, _), (2, _), (7, _), (8, _), (9, _), (26, _), (27, _)] ⟨rfl, rfl, rfl, rfl, rfl, rfl, rfl, rfl, trivial⟩ ?_
      refine Hd.toK hK12 ?_
      refine Hd.seq (fun K13 hK13 => ?_)
      refine Hd.region ?_
      refine Hd.yv (y_move rfl) ?_
      refine Hd.yv (y_move rfl) ?_
      first | (refine Hd.yv (y_idxS Try.underlying34 sz41 rfl rfl (by first | omega | decide)) ?_) | (refine Hd.yv (y_idxR Try.underlying34 sz41 rfl rfl (by first | omega | decide) (by (first | exact RdS.own (by repeat (first | with_reducible exact Pick.here | apply Pick.there | with_reducible apply Pick.right)) | exact RdS.mono hR (Ent.sep (by repeat (first | with_reducible exact Ent.same | exact Ent.nil | with_reducible exact Ent.left | (apply Ent.pick; focus ((repeat (first | with_reducible exact Pick.here | apply Pick.there | with_reducible apply Pick.right)); done)) | refine Ent.pure (by assumption) ?_ | apply Ent.ownNil | with_reducible apply Ent.right | exact Ent.left | exact Ent.same | refine Ent.skip ?_)))))) ?_)
      first | (refine Hd.yv (y_field' (q := 0) (ft := 3) Try.underlying41 rfl sz3 rfl rfl) ?_) | (refine Hd.yv (y_fieldR (q := 0) (ft := 3) Try.underlying41 rfl sz3 rfl rfl) ?_)
      first | (refine Hd.yv (y_load1 ag3 rfl (Rd.pt1 (by repeat (first | with_reducible exact Pick.here | apply Pick.there | with_reducible apply Pick.right)) (by (first | exact ho0 | exact ho1 | exact ho2 | rfl)))) ?_) | (refine Hd.yv (y_load1 ag3 rfl (Rd.seg1 (by repeat (first | with_reducible exact Pick.here | apply Pick.there | with_reducible apply Pick.right)) (by (first | exact ho0 | exact ho1 | exact ho2 | rfl)))) ?_) | (refine Hd.yv (y_loadR1 ag3 rfl (by (first | exact RdS.own (by repeat (first | with_reducible exact Pick.here | apply Pick.there | with_reducible apply Pick.right)) | exact RdS.mono hR (Ent.sep (by repeat (first | with_reducible exact Ent.same | exact Ent.nil | with_reducible exact Ent.left | (apply Ent.pick; focus ((repeat (first | with_reducible exact Pick.here | apply Pick.there | with_reducible apply Pick.right)); done)) | refine Ent.pure (by assumption) ?_ | apply Ent.ownNil | with_reducible apply Ent.right | exact Ent.left | exact Ent.same | refine Ent.skip ?_))))) (by (first | exact ho0 | exact ho1 | exact ho2 | rfl))) ?_)
      refine Hd.nil ?_
      refine Hd.slots [(0, _), (1, _), (2, _), (7, _), (8, _), (9, _), (26, _), (27, _), (34, _)] ⟨rfl, rfl, rfl, rfl, rfl, rfl, rfl, rfl, rfl, trivial⟩ ?_
      refine Hd.toK hK13 ?_
      refine Hd.block ?_
      refine Hd.seq (fun K14 hK14 => ?_)
      refine Hd.region ?_
      first | (refine Hd.yv (y_eqlT rfl rfl) ?_) | (refine Hd.yv (y_eql rfl rfl) ?_)
      refine Hd.yv (y_assign rfl) ?_
      refine Hd.nil ?_
      refine Hd.slots [(0, _), (1, _), (2, _), (7, _), (8, _), (9, _), (26, _), (27, _), (34, _), (35, _)] ⟨rfl, rfl, rfl, rfl, rfl, rfl, rfl, rfl, rfl, rfl, trivial⟩ ?_
      refine Hd.toK hK14 ?_
      refine Hd.cond rfl (fun hc2 => ?_) (fun hc2 => ?_)
      ·
        try simp only [decide_eq_true_eq, decide_eq_false_iff_not, Bool.and_eq_true, Bool.or_eq_true, Bool.and_eq_false_iff, Bool.or_eq_false_iff, Bool.not_eq_true', Bool.not_eq_false', Bool.not_eq_true, Bool.not_eq_false, Int.not_lt, Int.not_le, Decidable.not_not, ne_eq] at hc2
        refine Hd.tail 11 mixed (by kernel_rfl) ?_
        simp only [List.take, List.drop]
        refine Ht.yv (y_move rfl) ?_
        refine Ht.yv (y_move rfl) ?_
        refine Ht.yv (y_move rfl) ?_
        first | (refine Ht.yv (y_idxS Try.underlying34 sz41 rfl rfl (by first | omega | decide)) ?_) | (refine Ht.yv (y_idxR Try.underlying34 sz41 rfl rfl (by first | omega | decide) (by (first | exact RdS.own (by repeat (first | with_reducible exact Pick.here | apply Pick.there | with_reducible apply Pick.right)) | exact RdS.mono hR (Ent.sep (by repeat (first | with_reducible exact Ent.same | exact Ent.nil | with_reducible exact Ent.left | (apply Ent.pick; focus ((repeat (first | with_reducible exact Pick.here | apply Pick.there | with_reducible apply Pick.right)); done)) | refine Ent.pure (by assumption) ?_ | apply Ent.ownNil | with_reducible apply Ent.right | exact Ent.left | exact Ent.same | refine Ent.skip ?_)))))) ?_)
        first | (refine Ht.yv (y_field' (q := 1) (ft := 3) Try.underlying41 rfl sz3 rfl rfl) ?_) | (refine Ht.yv (y_fieldR (q := 1) (ft := 3) Try.underlying41 rfl sz3 rfl rfl) ?_)
        first | (refine Ht.yv (y_load1 ag3 rfl (Rd.pt1 (by repeat (first | with_reducible exact Pick.here | apply Pick.there | with_reducible apply Pick.right)) (by (first | exact ho0 | exact ho1 | exact ho2 | rfl)))) ?_) | (refine Ht.yv (y_load1 ag3 rfl (Rd.seg1 (by repeat (first | with_reducible exact Pick.here | apply Pick.there | with_reducible apply Pick.right)) (by (first | exact ho0 | exact ho1 | exact ho2 | rfl)))) ?_) | (refine Ht.yv (y_loadR1 ag3 rfl (by (first | exact RdS.own (by repeat (first | with_reducible exact Pick.here | apply Pick.there | with_reducible apply Pick.right)) | exact RdS.mono hR (Ent.sep (by repeat (first | with_reducible exact Ent.same | exact Ent.nil | with_reducible exact Ent.left | (apply Ent.pick; focus ((repeat (first | with_reducible exact Pick.here | apply Pick.there | with_reducible apply Pick.right)); done)) | refine Ent.pure (by assumption) ?_ | apply Ent.ownNil | with_reducible apply Ent.right | exact Ent.left | exact Ent.same | refine Ent.skip ?_))))) (by (first | exact ho0 | exact ho1 | exact ho2 | rfl))) ?_)
        refine Ht.yv (y_move rfl) ?_
        refine Ht.yv (y_move rfl) ?_
        first | (refine Ht.yv (y_idxS Try.underlying34 sz41 rfl rfl (by first | omega | decide)) ?_) | (refine Ht.yv (y_idxR Try.underlying34 sz41 rfl rfl (by first | omega | decide) (by (first | exact RdS.own (by repeat (first | with_reducible exact Pick.here | apply Pick.there | with_reducible apply Pick.right)) | exact RdS.mono hR (Ent.sep (by repeat (first | with_reducible exact Ent.same | exact Ent.nil | with_reducible exact Ent.left | (apply Ent.pick; focus ((repeat (first | with_reducible exact Pick.here | apply Pick.there | with_reducible apply Pick.right)); done)) | refine Ent.pure (by assumption) ?_ | apply Ent.ownNil | with_reducible apply Ent.right | exact Ent.left | exact Ent.same | refine Ent.skip ?_)))))) ?_)
        first | (refine Ht.yv (y_field' (q := 2) (ft := 3) Try.underlying41 rfl sz3 rfl rfl) ?_) | (refine Ht.yv (y_fieldR (q := 2) (ft := 3) Try.underlying41 rfl sz3 rfl rfl) ?_)
        first | (refine Ht.yv (y_load1 ag3 rfl (Rd.pt1 (by repeat (first | with_reducible exact Pick.here | apply Pick.there | with_reducible apply Pick.right)) (by (first | exact ho0 | exact ho1 | exact ho2 | rfl)))) ?_) | (refine Ht.yv (y_load1 ag3 rfl (Rd.seg1 (by repeat (first | with_reducible exact Pick.here | apply Pick.there | with_reducible apply Pick.right)) (by (first | exact ho0 | exact ho1 | exact ho2 | rfl)))) ?_) | (refine Ht.yv (y_loadR1 ag3 rfl (by (first | exact RdS.own (by repeat (first | with_reducible exact Pick.here | apply Pick.there | with_reducible apply Pick.right)) | exact RdS.mono hR (Ent.sep (by repeat (first | with_reducible exact Ent.same | exact Ent.nil | with_reducible exact Ent.left | (apply Ent.pick; focus ((repeat (first | with_reducible exact Pick.here | apply Pick.there | with_reducible apply Pick.right)); done)) | refine Ent.pure (by assumption) ?_ | apply Ent.ownNil | with_reducible apply Ent.right | exact Ent.left | exact Ent.same | refine Ent.skip ?_))))) (by (first | exact ho0 | exact ho1 | exact ho2 | rfl))) ?_)
        refine Ht.nil ?_
        refine Hd.callE rfl fk19 (want_ct _ b s o.2.1 o.2.2) (Ent.sep (by repeat (first | with_reducible exact Ent.same | exact Ent.nil | with_reducible exact Ent.left | (apply Ent.pick; focus ((repeat (first | with_reducible exact Pick.here | apply Pick.there | with_reducible apply Pick.right)); done)) | refine Ent.pure (by assumption) ?_ | apply Ent.ownNil | with_reducible apply Ent.right | exact Ent.left | exact Ent.same | refine Ent.skip ?_))) ?_
        intro _
        refine Hd.nil ?_
        refine Hd.slots [(0, _), (1, _), (2, _), (7, _), (8, _), (26, _), (27, _)] ⟨rfl, rfl, rfl, rfl, rfl, rfl, rfl, trivial⟩ ?_
        refine Hd.inB ?_
        refine Hd.inB ?_
        refine Hd.toK hK11 ?_
        refine Hd.region ?_
        first | (refine Hd.yv (y_addn rfl rfl (by simp only [InK]; omega)) ?_) | (refine Hd.yv (y_add rfl rfl) ?_)
        refine Hd.yv (y_move rfl) ?_
        refine Hd.nil ?_
        refine Hd.slots [(0, _), (1, _), (2, _), (7, _), (8, _), (26, _), (27, _)] ⟨rfl, rfl, rfl, rfl, rfl, rfl, rfl, trivial⟩ ?_
        clear hK1 hK2 hK3 hK4 hK6 hK7 hK8 hK9 hK10 hK11 hK12 hK13 hK14
        refine Hd.thenN ?_
        exact Hd.again (i + 1, s.want o.2.1 o.2.2) (by simp only; omega) ⟨rfl, rfl, rfl, rfl, rfl, rfl, rfl, trivial⟩ (Ent.sep (.pure ⟨by simp only; omega, okW_want hok _ _⟩ (by repeat (first | with_reducible exact Ent.same | exact Ent.nil | with_reducible exact Ent.left | (apply Ent.pick; focus ((repeat (first | with_reducible exact Pick.here | apply Pick.there | with_reducible apply Pick.right)); done)) | refine Ent.pure (by assumption) ?_ | apply Ent.ownNil | with_reducible apply Ent.right | exact Ent.left | exact Ent.same | refine Ent.skip ?_))))
      ·
        try simp only [decide_eq_true_eq, decide_eq_false_iff_not, Bool.and_eq_true, Bool.or_eq_true, Bool.and_eq_false_iff, Bool.or_eq_false_iff, Bool.not_eq_true', Bool.not_eq_false', Bool.not_eq_true, Bool.not_eq_false, Int.not_lt, Int.not_le, Decidable.not_not, ne_eq] at hc2
        refine Hd.seq (fun K15 hK15 => ?_)
        refine Hd.region ?_
        first | (refine Hd.yv (y_eqlT rfl rfl) ?_) | (refine Hd.yv (y_eql rfl rfl) ?_)
        refine Hd.yv (y_assign rfl) ?_
        refine Hd.nil ?_
        refine Hd.slots [(0, _), (1, _), (2, _), (7, _), (8, _), (9, _), (26, _), (27, _), (34, _), (49, _)] ⟨rfl, rfl, rfl, rfl, rfl, rfl, rfl, rfl, rfl, rfl, trivial⟩ ?_
        refine Hd.toK hK15 ?_
        refine Hd.cond rfl (fun hc3 => ?_) (fun hc3 => ?_)
        ·
          try simp only [decide_eq_true_eq, decide_eq_false_iff_not, Bool.and_eq_true, Bool.or_eq_true, Bool.and_eq_false_iff, Bool.or_eq_false_iff, Bool.not_eq_true', Bool.not_eq_false', Bool.not_eq_true, Bool.not_eq_false, Int.not_lt, Int.not_le, Decidable.not_not, ne_eq] at hc3
          refine Hd.region ?_
          refine Hd.yv (y_move rfl) ?_
          refine Hd.yv (y_move rfl) ?_
          refine Hd.yv (y_move rfl) ?_
          first | (refine Hd.yv (y_idxS Try.underlying34 sz41 rfl rfl (by first | omega | decide)) ?_) | (refine Hd.yv (y_idxR Try.underlying34 sz41 rfl rfl (by first | omega | decide) (by (first | exact RdS.own (by repeat (first | with_reducible exact Pick.here | apply Pick.there | with_reducible apply Pick.right)) | exact RdS.mono hR (Ent.sep (by repeat (first | with_reducible exact Ent.same | exact Ent.nil | with_reducible exact Ent.left | (apply Ent.pick; focus ((repeat (first | with_reducible exact Pick.here | apply Pick.there | with_reducible apply Pick.right)); done)) | refine Ent.pure (by assumption) ?_ | apply Ent.ownNil | with_reducible apply Ent.right | exact Ent.left | exact Ent.same | refine Ent.skip ?_)))))) ?_)
          first | (refine Hd.yv (y_field' (q := 1) (ft := 3) Try.underlying41 rfl sz3 rfl rfl) ?_) | (refine Hd.yv (y_fieldR (q := 1) (ft := 3) Try.underlying41 rfl sz3 rfl rfl) ?_)
          first | (refine Hd.yv (y_load1 ag3 rfl (Rd.pt1 (by repeat (first | with_reducible exact Pick.here | apply Pick.there | with_reducible apply Pick.right)) (by (first | exact ho0 | exact ho1 | exact ho2 | rfl)))) ?_) | (refine Hd.yv (y_load1 ag3 rfl (Rd.seg1 (by repeat (first | with_reducible exact Pick.here | apply Pick.there | with_reducible apply Pick.right)) (by (first | exact ho0 | exact ho1 | exact ho2 | rfl)))) ?_) | (refine Hd.yv (y_loadR1 ag3 rfl (by (first | exact RdS.own (by repeat (first | with_reducible exact Pick.here | apply Pick.there | with_reducible apply Pick.right)) | exact RdS.mono hR (Ent.sep (by repeat (first | with_reducible exact Ent.same | exact Ent.nil | with_reducible exact Ent.left | (apply Ent.pick; focus ((repeat (first | with_reducible exact Pick.here | apply Pick.there | with_reducible apply Pick.right)); done)) | refine Ent.pure (by assumption) ?_ | apply Ent.ownNil | with_reducible apply Ent.right | exact Ent.left | exact Ent.same | refine Ent.skip ?_))))) (by (first | exact ho0 | exact ho1 | exact ho2 | rfl))) ?_)
          refine Hd.callE rfl fk26 (forget_ct _ b s o.2.1) (Ent.sep (by repeat (first | with_reducible exact Ent.same | exact Ent.nil | with_reducible exact Ent.left | (apply Ent.pick; focus ((repeat (first | with_reducible exact Pick.here | apply Pick.there | with_reducible apply Pick.right)); done)) | refine Ent.pure (by assumption) ?_ | apply Ent.ownNil | with_reducible apply Ent.right | exact Ent.left | exact Ent.same | refine Ent.skip ?_))) ?_
          intro _
          refine Hd.nil ?_
          refine Hd.slots [(0, _), (1, _), (2, _), (7, _), (8, _), (26, _), (27, _)] ⟨rfl, rfl, rfl, rfl, rfl, rfl, rfl, trivial⟩ ?_
          refine Hd.inB ?_
          refine Hd.inB ?_
          refine Hd.toK hK11 ?_
          refine Hd.region ?_
          first | (refine Hd.yv (y_addn rfl rfl (by simp only [InK]; omega)) ?_) | (refine Hd.yv (y_add rfl rfl) ?_)
          refine Hd.yv (y_move rfl) ?_
          refine Hd.nil ?_
          refine Hd.slots [(0, _), (1, _), (2, _), (7, _), (8, _), (26, _), (27, _)] ⟨rfl, rfl, rfl, rfl, rfl, rfl, rfl, trivial⟩ ?_
          clear hK1 hK2 hK3 hK4 hK6 hK7 hK8 hK9 hK10 hK11 hK12 hK13 hK14 hK15
          refine Hd.thenN ?_
          exact Hd.again (i + 1, s.forget o.2.1) (by simp only; omega) ⟨rfl, rfl, rfl, rfl, rfl, rfl, rfl, trivial⟩ (Ent.sep (.pure ⟨by simp only; omega, okW_forget hok _⟩ (by repeat (first | with_reducible exact Ent.same | exact Ent.nil | with_reducible exact Ent.left | (apply Ent.pick; focus ((repeat (first | with_reducible exact Pick.here | apply Pick.there | with_reducible apply Pick.right)); done)) | refine Ent.pure (by assumption) ?_ | apply Ent.ownNil | with_reducible apply Ent.right | exact Ent.left | exact Ent.same | refine Ent.skip ?_))))
        ·
          try simp only [decide_eq_true_eq, decide_eq_false_iff_not, Bool.and_eq_true, Bool.or_eq_true, Bool.and_eq_false_iff, Bool.or_eq_false_iff, Bool.not_eq_true', Bool.not_eq_false', Bool.not_eq_true, Bool.not_eq_false, Int.not_lt, Int.not_le, Decidable.not_not, ne_eq] at hc3
          refine Hd.seq (fun K16 hK16 => ?_)
          refine Hd.region ?_
          first | (refine Hd.yv (y_eqlT rfl rfl) ?_) | (refine Hd.yv (y_eql rfl rfl) ?_)
          refine Hd.yv (y_assign rfl) ?_
          refine Hd.nil ?_
          refine Hd.slots [(0, _), (1, _), (2, _), (7, _), (8, _), (26, _), (27, _), (58, _)] ⟨rfl, rfl, rfl, rfl, rfl, rfl, rfl, rfl, trivial⟩ ?_
          refine Hd.toK hK16 ?_
          refine Hd.cond rfl (fun hc4 => ?_) (fun hc4 => ?_)
          ·
            try simp only [decide_eq_true_eq, decide_eq_false_iff_not, Bool.and_eq_true, Bool.or_eq_true, Bool.and_eq_false_iff, Bool.or_eq_false_iff, Bool.not_eq_true', Bool.not_eq_false', Bool.not_eq_true, Bool.not_eq_false, Int.not_lt, Int.not_le, Decidable.not_not, ne_eq] at hc4
            refine Hd.region ?_
            refine Hd.yv (y_move rfl) ?_
            refine Hd.callE rfl fk20 (flush_ct _ b s) (Ent.sep (by repeat (first | with_reducible exact Ent.same | exact Ent.nil | with_reducible exact Ent.left | (apply Ent.pick; focus ((repeat (first | with_reducible exact Pick.here | apply Pick.there | with_reducible apply Pick.right)); done)) | refine Ent.pure (by assumption) ?_ | apply Ent.ownNil | with_reducible apply Ent.right | exact Ent.left | exact Ent.same | refine Ent.skip ?_))) ?_
            rintro ⟨a5, c5⟩
            refine Hd.nil ?_
            refine Hd.slots [(0, _), (1, _), (2, _), (7, _), (8, _), (26, _), (27, _)] ⟨rfl, rfl, rfl, rfl, rfl, rfl, rfl, trivial⟩ ?_
            refine Hd.inB ?_
            refine Hd.inB ?_
            refine Hd.toK hK11 ?_
            refine Hd.region ?_
            first | (refine Hd.yv (y_addn rfl rfl (by simp only [InK]; omega)) ?_) | (refine Hd.yv (y_add rfl rfl) ?_)
            refine Hd.yv (y_move rfl) ?_
            refine Hd.nil ?_
            refine Hd.slots [(0, _), (1, _), (2, _), (7, _), (8, _), (26, _), (27, _)] ⟨rfl, rfl, rfl, rfl, rfl, rfl, rfl, trivial⟩ ?_
            clear hK1 hK2 hK3 hK4 hK6 hK7 hK8 hK9 hK10 hK11 hK12 hK13 hK14 hK15 hK16
            refine Hd.thenN ?_
            exact Hd.again (i + 1, s.flush) (by simp only; omega) ⟨rfl, rfl, rfl, rfl, rfl, rfl, rfl, trivial⟩ (Ent.sep (.pure ⟨by simp only; omega, okW_flush hok⟩ (by repeat (first | with_reducible exact Ent.same | exact Ent.nil | with_reducible exact Ent.left | (apply Ent.pick; focus ((repeat (first | with_reducible exact Pick.here | apply Pick.there | with_reducible apply Pick.right)); done)) | refine Ent.pure (by assumption) ?_ | apply Ent.ownNil | with_reducible apply Ent.right | exact Ent.left | exact Ent.same | refine Ent.skip ?_))))
          ·
            try simp only [decide_eq_true_eq, decide_eq_false_iff_not, Bool.and_eq_true, Bool.or_eq_true, Bool.and_eq_false_iff, Bool.or_eq_false_iff, Bool.not_eq_true', Bool.not_eq_false', Bool.not_eq_true, Bool.not_eq_false, Int.not_lt, Int.not_le, Decidable.not_not, ne_eq] at hc4
            refine Hd.skip ?_
            refine Hd.inB ?_
            refine Hd.inB ?_
            refine Hd.toK hK11 ?_
            refine Hd.region ?_
            first | (refine Hd.yv (y_addn rfl rfl (by simp only [InK]; omega)) ?_) | (refine Hd.yv (y_add rfl rfl) ?_)
            refine Hd.yv (y_move rfl) ?_
            refine Hd.nil ?_
            refine Hd.slots [(0, _), (1, _), (2, _), (7, _), (8, _), (26, _), (27, _)] ⟨rfl, rfl, rfl, rfl, rfl, rfl, rfl, trivial⟩ ?_
            clear hK1 hK2 hK3 hK4 hK6 hK7 hK8 hK9 hK10 hK11 hK12 hK13 hK14 hK15 hK16
            refine Hd.thenN ?_
            exact Hd.again (i + 1, s) (by simp only; omega) ⟨rfl, rfl, rfl, rfl, rfl, rfl, rfl, trivial⟩ (Ent.sep (.pure ⟨by simp only; omega, hok⟩ (by repeat (first | with_reducible exact Ent.same | exact Ent.nil | with_reducible exact Ent.left | (apply Ent.pick; focus ((repeat (first | with_reducible exact Pick.here | apply Pick.there | with_reducible apply Pick.right)); done)) | refine Ent.pure (by assumption) ?_ | apply Ent.ownNil | with_reducible apply Ent.right | exact Ent.left | exact Ent.same | refine Ent.skip ?_))))
    ·
      try simp only [decide_eq_true_eq, decide_eq_false_iff_not, Bool.and_eq_true, Bool.or_eq_true, Bool.and_eq_false_iff, Bool.or_eq_false_iff, Bool.not_eq_true', Bool.not_eq_false', Bool.not_eq_true, Bool.not_eq_false, Int.not_lt, Int.not_le, Decidable.not_not, ne_eq] at hc1
      refine Hd.exit ?_
      refine Hd.thenExit ?_
      refine Hd.thenExit ?_
      refine Hd.inBexit ?_
      refine Hd.toK hK7 ?_
      refine Hd.seq (fun K17 hK17 => ?_)
      refine Hd.region ?_
      refine Hd.yv (y_move rfl) ?_
      refine Hd.callE rfl fk20 (flush_ct _ b s) (Ent.sep (by repeat (first | with_reducible exact Ent.same | exact Ent.nil | with_reducible exact Ent.left | (apply Ent.pick; focus ((repeat (first | with_reducible exact Pick.here | apply Pick.there | with_reducible apply Pick.right)); done)) | refine Ent.pure (by assumption) ?_ | apply Ent.ownNil | with_reducible apply Ent.right | exact Ent.left | exact Ent.same | refine Ent.skip ?_))) ?_
      rintro ⟨a6, c6⟩
      refine Hd.nil ?_
      refine Hd.slots [(1, _), (2, _), (7, _), (8, _)] ⟨rfl, rfl, rfl, rfl, trivial⟩ ?_
      refine Hd.toK hK17 ?_
      refine Hd.seq (fun K18 hK18 => ?_)
      refine Hd.seq (fun K19 hK19 => ?_)
      refine Hd.region ?_
      refine Hd.yv (y_move rfl) ?_
      refine Hd.callE rfl fk22 (changes_ct _ b s.flush) (Ent.sep (by repeat (first | with_reducible exact Ent.same | exact Ent.nil | with_reducible exact Ent.left | (apply Ent.pick; focus ((repeat (first | with_reducible exact Pick.here | apply Pick.there | with_reducible apply Pick.right)); done)) | refine Ent.pure (by assumption) ?_ | apply Ent.ownNil | with_reducible apply Ent.right | exact Ent.left | exact Ent.same | refine Ent.skip ?_))) ?_
      rintro ⟨a7, c7⟩
      dsimp only
      rw [flush_chs]
      refine Hd.yv (y_len Try.underlying42 rfl) ?_
      refine Hd.yv (y_neq rfl rfl) ?_
      refine Hd.nil ?_
      refine Hd.slots [(1, _), (2, _), (7, _), (8, _), (68, _)] ⟨rfl, rfl, rfl, rfl, rfl, trivial⟩ ?_
      refine Hd.toK hK19 ?_
      refine Hd.cond rfl (fun hc5 => ?_) (fun hc5 => ?_)
      ·
        try simp only [decide_eq_true_eq, decide_eq_false_iff_not, Bool.and_eq_true, Bool.or_eq_true, Bool.and_eq_false_iff, Bool.or_eq_false_iff, Bool.not_eq_true', Bool.not_eq_false', Bool.not_eq_true, Bool.not_eq_false, Int.not_lt, Int.not_le, Decidable.not_not, ne_eq] at hc5
        exact absurd (by simp) hc5
      ·
        try simp only [decide_eq_true_eq, decide_eq_false_iff_not, Bool.and_eq_true, Bool.or_eq_true, Bool.and_eq_false_iff, Bool.or_eq_false_iff, Bool.not_eq_true', Bool.not_eq_false', Bool.not_eq_true, Bool.not_eq_false, Int.not_lt, Int.not_le, Decidable.not_not, ne_eq] at hc5
        refine Hd.skip ?_
        refine Hd.toK hK18 ?_
        refine Hd.seq (fun K20 hK20 => ?_)
        refine Hd.seq (fun K21 hK21 => ?_)
        refine Hd.region ?_
        refine Hd.yv (y_assign rfl) ?_
        refine Hd.nil ?_
        refine Hd.slots [(1, _), (2, _), (7, _), (8, _), (10, _)] ⟨rfl, rfl, rfl, rfl, rfl, trivial⟩ ?_
        refine Hd.toK hK21 ?_
        refine Hd.block ?_
        refine Hd.loop (ι := Nat) (fun k => [(1, .int .i64 fd), (2, .int .i64 x), (7, .bool true), (8, .pointer (some ⟨b, 0, none⟩)), (10, .int .i64 ((k : Int) - 1))])
          (fun k => pu (k ≤ 98) :: CLs b s.flush true :: L) (fun k => 98 - k) 0 ⟨rfl, rfl, rfl, rfl, rfl, trivial⟩ (Ent.sep (.pure (by omega) (by repeat (first | with_reducible exact Ent.same | exact Ent.nil | with_reducible exact Ent.left | (apply Ent.pick; focus ((repeat (first | with_reducible exact Pick.here | apply Pick.there | with_reducible apply Pick.right)); done)) | refine Ent.pure (by assumption) ?_ | apply Ent.ownNil | with_reducible apply Ent.right | exact Ent.left | exact Ent.same | refine Ent.skip ?_)))) ?_
        intro k
        refine Hd.pure (fun hk => ?_)
        refine Hd.seq (fun K22 hK22 => ?_)
        refine Hd.seq (fun K23 hK23 => ?_)
        refine Hd.region ?_
        refine Hd.yv (y_move rfl) ?_
        refine Hd.yv (y_leq rfl rfl) ?_
        refine Hd.nil ?_
        refine Hd.slots [(1, _), (2, _), (7, _), (8, _), (10, _), (70, _)] ⟨rfl, rfl, rfl, rfl, rfl, rfl, trivial⟩ ?_
        refine Hd.toK hK23 ?_
        refine Hd.cond rfl (fun hc6 => ?_) (fun hc6 => ?_)
        ·
          try simp only [decide_eq_true_eq, decide_eq_false_iff_not, Bool.and_eq_true, Bool.or_eq_true, Bool.and_eq_false_iff, Bool.or_eq_false_iff, Bool.not_eq_true', Bool.not_eq_false', Bool.not_eq_true, Bool.not_eq_false, Int.not_lt, Int.not_le, Decidable.not_not, ne_eq] at hc6
          refine Hd.skip ?_
          refine Hd.toK hK22 ?_
          refine Hd.seq (fun K24 hK24 => ?_)
          refine Hd.block ?_
          refine Hd.seq (fun K25 hK25 => ?_)
          refine Hd.region ?_
          refine Hd.yv (y_move rfl) ?_
          refine Hd.yv (y_move rfl) ?_
          refine Hd.callE rfl fk24 (wants_ct _ b s.flush _) (Ent.sep (by repeat (first | with_reducible exact Ent.same | exact Ent.nil | with_reducible exact Ent.left | (apply Ent.pick; focus ((repeat (first | with_reducible exact Pick.here | apply Pick.there | with_reducible apply Pick.right)); done)) | refine Ent.pure (by assumption) ?_ | apply Ent.ownNil | with_reducible apply Ent.right | exact Ent.left | exact Ent.same | refine Ent.skip ?_))) ?_
          intro _
          refine Hd.yv (y_move rfl) ?_
          refine Hd.yv (y_move rfl) ?_
          refine Hd.callE rfl fk23 (held_ct _ b s.flush _) (Ent.sep (by repeat (first | with_reducible exact Ent.same | exact Ent.nil | with_reducible exact Ent.left | (apply Ent.pick; focus ((repeat (first | with_reducible exact Pick.here | apply Pick.there | with_reducible apply Pick.right)); done)) | refine Ent.pure (by assumption) ?_ | apply Ent.ownNil | with_reducible apply Ent.right | exact Ent.left | exact Ent.same | refine Ent.skip ?_))) ?_
          intro _
          refine Hd.yv (y_neq rfl rfl) ?_
          refine Hd.nil ?_
          refine Hd.slots [(1, _), (2, _), (7, _), (8, _), (10, _), (79, _)] ⟨rfl, rfl, rfl, rfl, rfl, rfl, trivial⟩ ?_
          refine Hd.toK hK25 ?_
          refine Hd.cond rfl (fun hc7 => ?_) (fun hc7 => ?_)
          ·
            try simp only [decide_eq_true_eq, decide_eq_false_iff_not, Bool.and_eq_true, Bool.or_eq_true, Bool.and_eq_false_iff, Bool.or_eq_false_iff, Bool.not_eq_true', Bool.not_eq_false', Bool.not_eq_true, Bool.not_eq_false, Int.not_lt, Int.not_le, Decidable.not_not, ne_eq] at hc7
            exact absurd (flush_wants s _) hc7
          ·
            try simp only [decide_eq_true_eq, decide_eq_false_iff_not, Bool.and_eq_true, Bool.or_eq_true, Bool.and_eq_false_iff, Bool.or_eq_false_iff, Bool.not_eq_true', Bool.not_eq_false', Bool.not_eq_true, Bool.not_eq_false, Int.not_lt, Int.not_le, Decidable.not_not, ne_eq] at hc7
            refine Hd.skip ?_
            refine Hd.inB ?_
            refine Hd.toK hK24 ?_
            refine Hd.region ?_
            refine Hd.yv (y_move rfl) ?_
            first | (refine Hd.yv (y_addn rfl rfl (by simp only [InK]; omega)) ?_) | (refine Hd.yv (y_add rfl rfl) ?_)
            refine Hd.yv (y_assign rfl) ?_
            refine Hd.nil ?_
            refine Hd.slots [(1, _), (2, _), (7, _), (8, _), (10, _)] ⟨rfl, rfl, rfl, rfl, rfl, trivial⟩ ?_
            clear hK1 hK2 hK3 hK4 hK6 hK7 hK8 hK9 hK10 hK17 hK18 hK19 hK20 hK21 hK22 hK23 hK24 hK25
            refine Hd.thenN ?_
            refine Hd.name (b := ((k + 1 : Nat) : Int) - 1) 10 rfl (by omega) ?_
            exact Hd.again (k + 1) (by omega) ⟨rfl, rfl, rfl, rfl, rfl, trivial⟩ (Ent.sep (.pure (by omega) (by repeat (first | with_reducible exact Ent.same | exact Ent.nil | with_reducible exact Ent.left | (apply Ent.pick; focus ((repeat (first | with_reducible exact Pick.here | apply Pick.there | with_reducible apply Pick.right)); done)) | refine Ent.pure (by assumption) ?_ | apply Ent.ownNil | with_reducible apply Ent.right | exact Ent.left | exact Ent.same | refine Ent.skip ?_))))
        ·
          try simp only [decide_eq_true_eq, decide_eq_false_iff_not, Bool.and_eq_true, Bool.or_eq_true, Bool.and_eq_false_iff, Bool.or_eq_false_iff, Bool.not_eq_true', Bool.not_eq_false', Bool.not_eq_true, Bool.not_eq_false, Int.not_lt, Int.not_le, Decidable.not_not, ne_eq] at hc6
          refine Hd.exit ?_
          refine Hd.thenExit ?_
          refine Hd.thenExit ?_
          refine Hd.inBexit ?_
          refine Hd.toK hK20 ?_
          refine Hd.seq (fun K26 hK26 => ?_)
          refine Hd.region ?_
          refine Hd.yv (y_move rfl) ?_
          refine Hd.yv (y_move rfl) ?_
          refine Hd.callE rfl fk24 (wants_ct _ b s.flush fd) (Ent.sep (by repeat (first | with_reducible exact Ent.same | exact Ent.nil | with_reducible exact Ent.left | (apply Ent.pick; focus ((repeat (first | with_reducible exact Pick.here | apply Pick.there | with_reducible apply Pick.right)); done)) | refine Ent.pure (by assumption) ?_ | apply Ent.ownNil | with_reducible apply Ent.right | exact Ent.left | exact Ent.same | refine Ent.skip ?_))) ?_
          intro _
          refine Hd.yv (y_assign rfl) ?_
          refine Hd.nil ?_
          refine Hd.slots [(1, _), (2, _), (7, _), (8, _), (11, _)] ⟨rfl, rfl, rfl, rfl, rfl, trivial⟩ ?_
          refine Hd.toK hK26 ?_
          refine Hd.seq (fun K27 hK27 => ?_)
          refine Hd.region ?_
          refine Hd.yv (y_move rfl) ?_
          refine Hd.yv (y_move rfl) ?_
          refine Hd.yv (y_move rfl) ?_
          refine Hd.callE rfl fk19 (want_ct _ b s.flush fd x) (Ent.sep (by repeat (first | with_reducible exact Ent.same | exact Ent.nil | with_reducible exact Ent.left | (apply Ent.pick; focus ((repeat (first | with_reducible exact Pick.here | apply Pick.there | with_reducible apply Pick.right)); done)) | refine Ent.pure (by assumption) ?_ | apply Ent.ownNil | with_reducible apply Ent.right | exact Ent.left | exact Ent.same | refine Ent.skip ?_))) ?_
          intro _
          refine Hd.yv (y_assign rfl) ?_
          refine Hd.nil ?_
          refine Hd.slots [(1, _), (2, _), (7, _), (8, _), (11, _), (12, _)] ⟨rfl, rfl, rfl, rfl, rfl, rfl, trivial⟩ ?_
          refine Hd.toK hK27 ?_
          refine Hd.seq (fun K28 hK28 => ?_)
          refine Hd.region ?_
          refine Hd.yv (y_assign rfl) ?_
          refine Hd.nil ?_
          refine Hd.slots [(1, _), (2, _), (7, _), (8, _), (11, _), (12, _), (13, _)] ⟨rfl, rfl, rfl, rfl, rfl, rfl, rfl, trivial⟩ ?_
          refine Hd.toK hK28 ?_
          refine Hd.seq (fun K29 hK29 => ?_)
          refine Hd.seq (fun K30 hK30 => ?_)
          refine Hd.region ?_
          refine Hd.yv (y_move rfl) ?_
          first | (refine Hd.yv (y_eqlT rfl rfl) ?_) | (refine Hd.yv (y_eql rfl rfl) ?_)
          refine Hd.yv (y_move rfl) ?_
          apply Hd.andg 4 89 93 [(1, _), (7, _), (8, _), (11, _), (12, _), (13, _)] rfl ⟨rfl, rfl, rfl, rfl, rfl, rfl, trivial⟩
          · intro hg27_89
            try simp only [decide_eq_true_eq, decide_eq_false_iff_not, Bool.and_eq_true, Bool.or_eq_true, Bool.and_eq_false_iff, Bool.or_eq_false_iff, Bool.not_eq_true', Bool.not_eq_false', Bool.not_eq_true, Bool.not_eq_false, Int.not_lt, Int.not_le, Decidable.not_not, ne_eq] at hg27_89
            simp only [List.take]
            refine Hd.yg rfl rfl (y_move rfl) ?_
            refine Hd.yg rfl rfl (y_move rfl) ?_
            refine Hd.yg rfl rfl (y_neq rfl rfl) ?_
            first | (refine Hd.yv (y_pickT rfl rfl) ?_) | (refine Hd.yv (y_pickF rfl rfl) ?_) | (refine Hd.yv (y_pickb rfl rfl rfl) ?_) | (refine Hd.yv (y_pick rfl rfl rfl) ?_)
            refine Hd.nil ?_
            exact Hd.mend (by repeat (first | exact trivial | refine ⟨rfl, ?_⟩)) (Ent.sep (by repeat (first | with_reducible exact Ent.same | exact Ent.nil | with_reducible exact Ent.left | (apply Ent.pick; focus ((repeat (first | with_reducible exact Pick.here | apply Pick.there | with_reducible apply Pick.right)); done)) | refine Ent.pure (by assumption) ?_ | apply Ent.ownNil | with_reducible apply Ent.right | exact Ent.left | exact Ent.same | refine Ent.skip ?_)))
          · intro hg27_89
            try simp only [decide_eq_true_eq, decide_eq_false_iff_not, Bool.and_eq_true, Bool.or_eq_true, Bool.and_eq_false_iff, Bool.or_eq_false_iff, Bool.not_eq_true', Bool.not_eq_false', Bool.not_eq_true, Bool.not_eq_false, Int.not_lt, Int.not_le, Decidable.not_not, ne_eq] at hg27_89
            simp only [List.take]
            refine Hd.ng rfl rfl rfl ?_
            refine Hd.ng rfl rfl rfl ?_
            refine Hd.ng rfl rfl rfl ?_
            first | (refine Hd.yv (y_pickT rfl rfl) ?_) | (refine Hd.yv (y_pickF rfl rfl) ?_) | (refine Hd.yv (y_pickb rfl rfl rfl) ?_) | (refine Hd.yv (y_pick rfl rfl rfl) ?_)
            refine Hd.nil ?_
            exact Hd.mend (by repeat (first | exact trivial | refine ⟨rfl, ?_⟩)) (Ent.sep (by repeat (first | with_reducible exact Ent.same | exact Ent.nil | with_reducible exact Ent.left | (apply Ent.pick; focus ((repeat (first | with_reducible exact Pick.here | apply Pick.there | with_reducible apply Pick.right)); done)) | refine Ent.pure (by assumption) ?_ | apply Ent.ownNil | with_reducible apply Ent.right | exact Ent.left | exact Ent.same | refine Ent.skip ?_)))
          simp only [List.drop]
          refine Hd.nil ?_
          refine Hd.slots [(1, _), (7, _), (8, _), (11, _), (12, _), (13, _), (93, _)] ⟨rfl, rfl, rfl, rfl, rfl, rfl, rfl, trivial⟩ ?_
          refine Hd.toK hK30 ?_
          apply Hd.mergeK (L' := _) [(1, _), (7, _), (8, _), (11, _), (12, _), (13, .int .i64 _)] [(1, _), (7, _), (8, _), (11, _), (12, _), (13, .int .i64 _)] rfl
          · intro hc8
            try simp only [decide_eq_true_eq, decide_eq_false_iff_not, Bool.and_eq_true, Bool.or_eq_true, Bool.and_eq_false_iff, Bool.or_eq_false_iff, Bool.not_eq_true', Bool.not_eq_false', Bool.not_eq_true, Bool.not_eq_false, Int.not_lt, Int.not_le, Decidable.not_not, ne_eq] at hc8
            refine Hd.region ?_
            refine Hd.yv (y_assign rfl) ?_
            refine Hd.nil ?_
            refine Hd.slots [(1, _), (7, _), (8, _), (11, _), (12, _), (13, _)] ⟨rfl, rfl, rfl, rfl, rfl, rfl, trivial⟩ ?_
            exact Hd.mend ⟨rfl, rfl, rfl, rfl, rfl, rfl, trivial⟩ (fun _ h => h)
          · intro hc8
            try simp only [decide_eq_true_eq, decide_eq_false_iff_not, Bool.and_eq_true, Bool.or_eq_true, Bool.and_eq_false_iff, Bool.or_eq_false_iff, Bool.not_eq_true', Bool.not_eq_false', Bool.not_eq_true, Bool.not_eq_false, Int.not_lt, Int.not_le, Decidable.not_not, ne_eq] at hc8
            refine Hd.skip ?_
            exact Hd.mend ⟨rfl, rfl, rfl, rfl, rfl, rfl, trivial⟩ (fun _ h => h)
          · repeat (first | exact Mrg.nil | apply Mrg.same | apply Mrg.int | apply Mrg.bool)
          refine Hd.toK0 hK29 ?_
          refine Hd.seq (fun K31 hK31 => ?_)
          refine Hd.seq (fun K32 hK32 => ?_)
          refine Hd.region ?_
          refine Hd.yv (y_move rfl) ?_
          refine Hd.callE rfl fk22 (changes_ct _ b (s.flush.want fd x)) (Ent.sep (by repeat (first | with_reducible exact Ent.same | exact Ent.nil | with_reducible exact Ent.left | (apply Ent.pick; focus ((repeat (first | with_reducible exact Pick.here | apply Pick.there | with_reducible apply Pick.right)); done)) | refine Ent.pure (by assumption) ?_ | apply Ent.ownNil | with_reducible apply Ent.right | exact Ent.left | exact Ent.same | refine Ent.skip ?_))) ?_
          rintro ⟨a8, c8⟩
          dsimp only
          refine Hd.yv (y_len Try.underlying42 rfl) ?_
          refine Hd.yv (y_move rfl) ?_
          refine Hd.yv (y_neq rfl rfl) ?_
          refine Hd.yv (y_move rfl) ?_
          apply Hd.org 6 99 105 [(1, _), (7, _), (8, _), (11, _), (12, _)] rfl ⟨rfl, rfl, rfl, rfl, rfl, trivial⟩
          · intro hg29_99
            try simp only [decide_eq_true_eq, decide_eq_false_iff_not, Bool.and_eq_true, Bool.or_eq_true, Bool.and_eq_false_iff, Bool.or_eq_false_iff, Bool.not_eq_true', Bool.not_eq_false', Bool.not_eq_true, Bool.not_eq_false, Int.not_lt, Int.not_le, Decidable.not_not, ne_eq] at hg29_99
            simp only [List.take]
            refine Hd.ng rfl rfl rfl ?_
            refine Hd.ng rfl rfl rfl ?_
            refine Hd.ng rfl rfl rfl ?_
            refine Hd.ng rfl rfl rfl ?_
            refine Hd.ng rfl rfl rfl ?_
            first | (refine Hd.yv (y_pickT rfl rfl) ?_) | (refine Hd.yv (y_pickF rfl rfl) ?_) | (refine Hd.yv (y_pickb rfl rfl rfl) ?_) | (refine Hd.yv (y_pick rfl rfl rfl) ?_)
            refine Hd.nil ?_
            exact Hd.mend (by repeat (first | exact trivial | refine ⟨rfl, ?_⟩)) (Ent.sep (by repeat (first | with_reducible exact Ent.same | exact Ent.nil | with_reducible exact Ent.left | (apply Ent.pick; focus ((repeat (first | with_reducible exact Pick.here | apply Pick.there | with_reducible apply Pick.right)); done)) | refine Ent.pure (by assumption) ?_ | apply Ent.ownNil | with_reducible apply Ent.right | exact Ent.left | exact Ent.same | refine Ent.skip ?_)))
          · intro hg29_99
            try simp only [decide_eq_true_eq, decide_eq_false_iff_not, Bool.and_eq_true, Bool.or_eq_true, Bool.and_eq_false_iff, Bool.or_eq_false_iff, Bool.not_eq_true', Bool.not_eq_false', Bool.not_eq_true, Bool.not_eq_false, Int.not_lt, Int.not_le, Decidable.not_not, ne_eq] at hg29_99
            simp only [List.take]
            refine Hd.yg rfl rfl (y_move rfl) ?_
            refine Hd.yg rfl rfl (y_move rfl) ?_
            refine Hd.unguard rfl rfl ?_
            refine Hd.callE rfl fk23 (held_ct _ b (s.flush.want fd x) fd) (Ent.sep (by repeat (first | with_reducible exact Ent.same | exact Ent.nil | with_reducible exact Ent.left | (apply Ent.pick; focus ((repeat (first | with_reducible exact Pick.here | apply Pick.there | with_reducible apply Pick.right)); done)) | refine Ent.pure (by assumption) ?_ | apply Ent.ownNil | with_reducible apply Ent.right | exact Ent.left | exact Ent.same | refine Ent.skip ?_))) ?_
            intro _
            refine Hd.yg rfl rfl (y_move rfl) ?_
            refine Hd.yg rfl rfl (y_neq rfl rfl) ?_
            first | (refine Hd.yv (y_pickT rfl rfl) ?_) | (refine Hd.yv (y_pickF rfl rfl) ?_) | (refine Hd.yv (y_pickb rfl rfl rfl) ?_) | (refine Hd.yv (y_pick rfl rfl rfl) ?_)
            refine Hd.nil ?_
            exact Hd.mend (by repeat (first | exact trivial | refine ⟨rfl, ?_⟩)) (Ent.sep (by repeat (first | with_reducible exact Ent.same | exact Ent.nil | with_reducible exact Ent.left | (apply Ent.pick; focus ((repeat (first | with_reducible exact Pick.here | apply Pick.there | with_reducible apply Pick.right)); done)) | refine Ent.pure (by assumption) ?_ | apply Ent.ownNil | with_reducible apply Ent.right | exact Ent.left | exact Ent.same | refine Ent.skip ?_)))
          simp only [List.drop]
          refine Hd.nil ?_
          refine Hd.slots [(1, _), (7, _), (8, _), (11, _), (12, _), (105, _)] ⟨rfl, rfl, rfl, rfl, rfl, rfl, trivial⟩ ?_
          refine Hd.toK hK32 ?_
          refine Hd.cond rfl (fun hc9 => ?_) (fun hc9 => ?_)
          ·
            try simp only [decide_eq_true_eq, decide_eq_false_iff_not, Bool.and_eq_true, Bool.or_eq_true, Bool.and_eq_false_iff, Bool.or_eq_false_iff, Bool.not_eq_true', Bool.not_eq_false', Bool.not_eq_true, Bool.not_eq_false, Int.not_lt, Int.not_le, Decidable.not_not, ne_eq] at hc9
            refine Hd.seq (fun K33 hK33 => ?_)
            refine Hd.region ?_
            refine Hd.yv (y_assign rfl) ?_
            refine Hd.nil ?_
            refine Hd.slots [(6, _)] ⟨rfl, trivial⟩ ?_
            refine Hd.toK hK33 ?_
            refine Hd.ret ?_
            refine Hd.thenRet ?_
            clear hK1 hK2 hK3 hK4 hK6 hK7 hK8 hK9 hK10 hK17 hK18 hK19 hK20 hK21 hK22 hK23 hK26 hK27 hK28 hK29 hK30 hK31 hK32 hK33
            exfalso
            have hlen := flush_want_len s fd x
            have hheld : (s.flush.want fd x).held fd = s.flush.wants fd := want_held s.flush fd x fd
            rw [hlen, hheld] at hc9
            by_cases h1 : wantE fd x = 0 <;> by_cases h2 : x = s.flush.wants fd <;> simp [h1, h2] at hc9
          ·
            try simp only [decide_eq_true_eq, decide_eq_false_iff_not, Bool.and_eq_true, Bool.or_eq_true, Bool.and_eq_false_iff, Bool.or_eq_false_iff, Bool.not_eq_true', Bool.not_eq_false', Bool.not_eq_true, Bool.not_eq_false, Int.not_lt, Int.not_le, Decidable.not_not, ne_eq] at hc9
            refine Hd.skip ?_
            refine Hd.toK hK31 ?_
            refine Hd.seq (fun K34 hK34 => ?_)
            refine Hd.region ?_
            refine Hd.yv (y_move rfl) ?_
            refine Hd.yv (y_move rfl) ?_
            refine Hd.yv (y_move rfl) ?_
            refine Hd.callE rfl fk19 (want_ct _ b (s.flush.want fd x) fd (s.flush.wants fd)) (Ent.sep (by repeat (first | with_reducible exact Ent.same | exact Ent.nil | with_reducible exact Ent.left | (apply Ent.pick; focus ((repeat (first | with_reducible exact Pick.here | apply Pick.there | with_reducible apply Pick.right)); done)) | refine Ent.pure (by assumption) ?_ | apply Ent.ownNil | with_reducible apply Ent.right | exact Ent.left | exact Ent.same | refine Ent.skip ?_))) ?_
            intro _
            refine Hd.yv (y_assign rfl) ?_
            refine Hd.nil ?_
            refine Hd.slots [(7, _), (8, _), (12, _), (14, _)] ⟨rfl, rfl, rfl, rfl, trivial⟩ ?_
            refine Hd.toK hK34 ?_
            refine Hd.seq (fun K35 hK35 => ?_)
            refine Hd.region ?_
            refine Hd.yv (y_move rfl) ?_
            refine Hd.yv (y_move rfl) ?_
            refine Hd.yg rfl rfl (y_move rfl) ?_
            refine Hd.unguard rfl rfl ?_
            refine Hd.callE rfl fk22 (changes_ct _ b ((s.flush.want fd x).want fd (s.flush.wants fd))) (Ent.sep (by repeat (first | with_reducible exact Ent.same | exact Ent.nil | with_reducible exact Ent.left | (apply Ent.pick; focus ((repeat (first | with_reducible exact Pick.here | apply Pick.there | with_reducible apply Pick.right)); done)) | refine Ent.pure (by assumption) ?_ | apply Ent.ownNil | with_reducible apply Ent.right | exact Ent.left | exact Ent.same | refine Ent.skip ?_))) ?_
            rintro ⟨a9, c9⟩
            dsimp only
            rw [(flush_back s hok fd x).1]
            refine Hd.yg rfl rfl (y_len Try.underlying42 rfl) ?_
            first | (refine Hd.yg rfl rfl (y_eqlT rfl rfl) ?_) | (refine Hd.yg rfl rfl (y_eql rfl rfl) ?_)
            first | (refine Hd.yv (y_pickT rfl rfl) ?_) | (refine Hd.yv (y_pickF rfl rfl) ?_) | (refine Hd.yv (y_pickb rfl rfl rfl) ?_) | (refine Hd.yv (y_pick rfl rfl rfl) ?_)
            refine Hd.yv (y_move rfl) ?_
            apply Hd.andg 8 117 125 [] rfl trivial
            · intro hg32_117
              try simp only [decide_eq_true_eq, decide_eq_false_iff_not, Bool.and_eq_true, Bool.or_eq_true, Bool.and_eq_false_iff, Bool.or_eq_false_iff, Bool.not_eq_true', Bool.not_eq_false', Bool.not_eq_true, Bool.not_eq_false, Int.not_lt, Int.not_le, Decidable.not_not, ne_eq] at hg32_117
              simp only [List.take]
              refine Hd.yg rfl rfl (y_move rfl) ?_
              refine Hd.yg rfl rfl (y_move rfl) ?_
              first | (refine Hd.yg rfl rfl (y_eqlT rfl rfl) ?_) | (refine Hd.yg rfl rfl (y_eql rfl rfl) ?_)
              refine Hd.yg rfl rfl (y_move rfl) ?_
              apply Hd.org 3 121 124 [(117, _)] rfl ⟨rfl, trivial⟩
              · intro hg32_121
                try simp only [decide_eq_true_eq, decide_eq_false_iff_not, Bool.and_eq_true, Bool.or_eq_true, Bool.and_eq_false_iff, Bool.or_eq_false_iff, Bool.not_eq_true', Bool.not_eq_false', Bool.not_eq_true, Bool.not_eq_false, Int.not_lt, Int.not_le, Decidable.not_not, ne_eq] at hg32_121
                simp only [List.take]
                refine Hd.ng rfl rfl rfl ?_
                refine Hd.ng rfl rfl rfl ?_
                first | (refine Hd.yg rfl rfl (y_pickT rfl rfl) ?_) | (refine Hd.yg rfl rfl (y_pickF rfl rfl) ?_) | (refine Hd.yg rfl rfl (y_pickb rfl rfl rfl) ?_) | (refine Hd.yg rfl rfl (y_pick rfl rfl rfl) ?_)
                refine Hd.nil ?_
                exact Hd.mend (by repeat (first | exact trivial | refine ⟨rfl, ?_⟩)) (Ent.sep (by repeat (first | with_reducible exact Ent.same | exact Ent.nil | with_reducible exact Ent.left | (apply Ent.pick; focus ((repeat (first | with_reducible exact Pick.here | apply Pick.there | with_reducible apply Pick.right)); done)) | refine Ent.pure (by assumption) ?_ | apply Ent.ownNil | with_reducible apply Ent.right | exact Ent.left | exact Ent.same | refine Ent.skip ?_)))
              · intro hg32_121
                try simp only [decide_eq_true_eq, decide_eq_false_iff_not, Bool.and_eq_true, Bool.or_eq_true, Bool.and_eq_false_iff, Bool.or_eq_false_iff, Bool.not_eq_true', Bool.not_eq_false', Bool.not_eq_true, Bool.not_eq_false, Int.not_lt, Int.not_le, Decidable.not_not, ne_eq] at hg32_121
                simp only [List.take]
                refine Hd.yg rfl rfl (y_move rfl) ?_
                refine Hd.yg rfl rfl (y_neq rfl rfl) ?_
                first | (refine Hd.yg rfl rfl (y_pickT rfl rfl) ?_) | (refine Hd.yg rfl rfl (y_pickF rfl rfl) ?_) | (refine Hd.yg rfl rfl (y_pickb rfl rfl rfl) ?_) | (refine Hd.yg rfl rfl (y_pick rfl rfl rfl) ?_)
                refine Hd.nil ?_
                exact Hd.mend (by repeat (first | exact trivial | refine ⟨rfl, ?_⟩)) (Ent.sep (by repeat (first | with_reducible exact Ent.same | exact Ent.nil | with_reducible exact Ent.left | (apply Ent.pick; focus ((repeat (first | with_reducible exact Pick.here | apply Pick.there | with_reducible apply Pick.right)); done)) | refine Ent.pure (by assumption) ?_ | apply Ent.ownNil | with_reducible apply Ent.right | exact Ent.left | exact Ent.same | refine Ent.skip ?_)))
              simp only [List.drop]
              first | (refine Hd.yv (y_pickT rfl rfl) ?_) | (refine Hd.yv (y_pickF rfl rfl) ?_) | (refine Hd.yv (y_pickb rfl rfl rfl) ?_) | (refine Hd.yv (y_pick rfl rfl rfl) ?_)
              refine Hd.nil ?_
              exact Hd.mend (by repeat (first | exact trivial | refine ⟨rfl, ?_⟩)) (Ent.sep (by repeat (first | with_reducible exact Ent.same | exact Ent.nil | with_reducible exact Ent.left | (apply Ent.pick; focus ((repeat (first | with_reducible exact Pick.here | apply Pick.there | with_reducible apply Pick.right)); done)) | refine Ent.pure (by assumption) ?_ | apply Ent.ownNil | with_reducible apply Ent.right | exact Ent.left | exact Ent.same | refine Ent.skip ?_)))
            · intro hg32_117
              try simp only [decide_eq_true_eq, decide_eq_false_iff_not, Bool.and_eq_true, Bool.or_eq_true, Bool.and_eq_false_iff, Bool.or_eq_false_iff, Bool.not_eq_true', Bool.not_eq_false', Bool.not_eq_true, Bool.not_eq_false, Int.not_lt, Int.not_le, Decidable.not_not, ne_eq] at hg32_117
              simp only [List.take]
              refine Hd.ng rfl rfl rfl ?_
              refine Hd.ng rfl rfl rfl ?_
              refine Hd.ng rfl rfl rfl ?_
              refine Hd.ng rfl rfl rfl ?_
              refine Hd.ng rfl rfl rfl ?_
              refine Hd.ng rfl rfl rfl ?_
              refine Hd.ng rfl rfl rfl ?_
              first | (refine Hd.yv (y_pickT rfl rfl) ?_) | (refine Hd.yv (y_pickF rfl rfl) ?_) | (refine Hd.yv (y_pickb rfl rfl rfl) ?_) | (refine Hd.yv (y_pick rfl rfl rfl) ?_)
              refine Hd.nil ?_
              exact Hd.mend (by repeat (first | exact trivial | refine ⟨rfl, ?_⟩)) (Ent.sep (by repeat (first | with_reducible exact Ent.same | exact Ent.nil | with_reducible exact Ent.left | (apply Ent.pick; focus ((repeat (first | with_reducible exact Pick.here | apply Pick.there | with_reducible apply Pick.right)); done)) | refine Ent.pure (by assumption) ?_ | apply Ent.ownNil | with_reducible apply Ent.right | exact Ent.left | exact Ent.same | refine Ent.skip ?_)))
            simp only [List.drop]
            refine Hd.yv (y_assign rfl) ?_
            refine Hd.nil ?_
            refine Hd.slots [(6, _)] ⟨rfl, trivial⟩ ?_
            refine Hd.toK hK35 ?_
            refine Hd.ret ?_
            clear hK1 hK2 hK3 hK4 hK6 hK7 hK8 hK9 hK10 hK17 hK18 hK19 hK20 hK21 hK22 hK23 hK26 hK27 hK28 hK29 hK30 hK31 hK32 hK34 hK35
            have hb2 := (flush_back s hok fd x).2
            refine Hd.ret1 rfl () ?_ (Ent.sep (by repeat (first | with_reducible exact Ent.same | exact Ent.nil | with_reducible exact Ent.left | (apply Ent.pick; focus ((repeat (first | with_reducible exact Pick.here | apply Pick.there | with_reducible apply Pick.right)); done)) | refine Ent.pure (by assumption) ?_ | apply Ent.ownNil | with_reducible apply Ent.right | exact Ent.left | exact Ent.same | refine Ent.skip ?_)))
            by_cases h1 : wantE fd x = 0
            · simp [h1, hb2 h1]; rfl
            · simp [h1]; rfl
end Cl4
end Go.Proofs.Ytkgkfjhfedjnpaa
