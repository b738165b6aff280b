/-
  Epoll: Ctl. Epoll: what is due, collected; Poll. Worlds: what turns a wire may take; what never goes back. Worlds: what all calls do, in plain words; what they keep. Worlds: what all calls keep. Worlds: the wire whose other end is outside; Put, Take, PeerShut, PeerClose, Shut.
-/
import Derived.Test.YtbfddabjbkohdaaZEplNamesF
namespace Go.Proofs.Ytbfddabjbkohdaa
set_option linter.unusedSimpArgs false
set_option linter.unusedVariables false
set_option linter.unnecessarySimpa false
open Go.RX Fx
namespace Ep
open Wo
set_option maxRecDepth 8000
def updF (f : Int → Option IxA) (fd : Int) (o : Option IxA) : Int → Option IxA := fun a => if a = fd then o else f a
theorem fmap_upd (f : Int → Option IxA) (fd : Int) (x : IxA) : fmap (updF f fd (some x)) = fun c => if c = fd then some (.agg (encIx x).toArray) else fmap f c := by
  funext c
  unfold fmap updF
  by_cases h : c = fd
  · rw [if_pos h, if_pos h]; rfl
  · rw [if_neg h, if_neg h]
theorem fmap_del (f : Int → Option IxA) (fd : Int) : fmap (updF f fd none) = fun c => if c = fd then none else fmap f c := by
  funext c
  unfold fmap updF
  by_cases h : c = fd
  · rw [if_pos h, if_pos h]; rfl
  · rw [if_neg h, if_neg h]
theorem mp_eq {b : Nat} {f f' : Int → Option Value} {m m' : Nat} (h : f = f') (hm : m = m') : mp b .i64 f m = mp b .i64 f' m' := by rw [h, hm]
def addX (w : WA) (fd ev : Int) : IxA := ⟨wireN (w.at fd), ev, bits .and .i64 ev 5, (readyR w fd).r, (readyR w fd).w⟩
def armE (x : IxA) (r : RdyA) (ev : Int) : Int := if bits .and .i64 x.events 32 = 0 then 5 else bits .or .i64 (rsE x r) (bits .andNot .i64 (bits .and .i64 ev 5) x.events)
def modX (x : IxA) (w : WA) (fd ev : Int) : IxA := ⟨wireN (w.at fd), ev, bits .and .i64 (armE x (readyR w fd) ev) ev, (readyR w fd).r, (readyR w fd).w⟩
def ctlR (limit : Int) (f : Int → Option IxA) (w : WA) (op fd ev : Int) : Int × (Int → Option IxA) :=
  if (op < 1 ∨ 3 < op) ∨ (op ≠ 3 ∧ bits .andNot .i64 ev 37 ≠ 0) then (2, f)
  else if w.at fd = none then (110, f)
  else if op = 1 ∧ qE f w fd = true then (150, f)
  else if op = 1 ∧ limit ≤ ((allL f w).length : Int) then (152, f)
  else if op = 1 then (0, updF f fd (some (addX w fd ev)))
  else if qE f w fd = false then (151, f)
  else if op = 3 then (0, updF f fd none)
  else (0, updF f fd (some (modX ((findE f w fd).getD zIx) w fd ev)))
theorem fdErr_no {o : Option (Nat × Nat)} : fdErr o ≠ 0 ↔ o = none := by cases o <;> simp [fdErr]
set_option maxHeartbeats 2000000 in
theorem ctl_ct (L : List SP) (pb wb mb : Nat) (limit : Int) (f : Int → Option IxA) (m : Nat) (hm : m ≤ 1000000) (w : WA) (op fd ev : Int) : Ct Try.prog 11 #[.pointer (some ⟨pb, 0, none⟩), .int .i64 op, .int .i64 fd, .int .i64 ev] (EpB pb wb mb limit f m w L) (fun m' : Nat => .int .i64 (ctlR limit f w op fd ev).1) (fun m' : Nat => pu (m' ≤ m + 1) :: EpB pb wb mb limit (ctlR limit f w op fd ev).2 m' w L) := by
  refine Ct.of (vs := [.pointer (some ⟨pb, 0, none⟩), .int .i64 op, .int .i64 fd, .int .i64 ev]) Try.func11 rfl rfl [(0, .pointer (some ⟨pb, 0, none⟩)), (1, .int .i64 op), (2, .int .i64 fd), (3, .int .i64 ev)] (by repeat (first | exact trivial | refine ⟨rfl, ?_⟩)) ?_
  intro E
  show Hd E 132 _ _ _ _
  refine Hd.wok pkk (fun hw => ?_)
  refine Hd.seq (fun K1 hK1 => ?_)
  refine Hd.region ?_
  refine Hd.yv (y_assign rfl) ?_
  refine Hd.nil ?_
  refine Hd.slots [(0, _), (1, _), (2, _), (3, _)] ⟨rfl, rfl, rfl, rfl, trivial⟩ ?_
  refine Hd.toK hK1 ?_
  refine Hd.seq (fun K2 hK2 => ?_)
  refine Hd.block ?_
  refine Hd.seq (fun K3 hK3 => ?_)
  refine Hd.region ?_
  refine Hd.yv (y_move rfl) ?_
  refine Hd.callE rfl fk36 (enone_ct _ pb wb mb limit) (Ent.sep enn) ?_
  intro _
  refine Hd.yv (y_assign rfl) ?_
  refine Hd.nil ?_
  refine Hd.slots [(0, _), (1, _), (2, _), (3, _), (15, _)] ⟨rfl, rfl, rfl, rfl, rfl, trivial⟩ ?_
  refine Hd.toK hK3 ?_
  refine Hd.condF rfl ?_
  refine Hd.seq (fun K4 hK4 => ?_)
  refine Hd.region ?_
  refine Hd.yv (y_move rfl) ?_
  refine Hd.yv (y_lss rfl rfl) ?_
  refine Hd.yv (y_move rfl) ?_
  apply Hd.org 3 21 24 [(0, _), (1, _), (2, _), (3, _)] rfl ⟨rfl, rfl, rfl, rfl, trivial⟩
  · intro hg3_21
    try simp only [decide_eq_true_eq, decide_eq_false_iff_not, Bool.and_eq_true, Bool.or_eq_true, Bool.and_eq_false_iff, Bool.or_eq_false_iff, Bool.not_eq_true', Bool.not_eq_false', Bool.not_eq_true, Bool.not_eq_false, Int.not_lt, Int.not_le, Decidable.not_not, ne_eq] at hg3_21
    simp only [List.take]
    refine Hd.ng rfl rfl rfl ?_
    refine Hd.ng rfl rfl rfl ?_
    first | (refine Hd.yv (y_pickT rfl rfl) ?_) | (refine Hd.yv (y_pickF rfl rfl) ?_) | (refine Hd.yv (y_pickb rfl rfl rfl) ?_) | (refine Hd.yv (y_pick rfl rfl rfl) ?_)
    refine Hd.nil ?_
    exact Hd.mend (by repeat (first | exact trivial | refine ⟨rfl, ?_⟩)) (Ent.sep enn)
  · intro hg3_21
    try simp only [decide_eq_true_eq, decide_eq_false_iff_not, Bool.and_eq_true, Bool.or_eq_true, Bool.and_eq_false_iff, Bool.or_eq_false_iff, Bool.not_eq_true', Bool.not_eq_false', Bool.not_eq_true, Bool.not_eq_false, Int.not_lt, Int.not_le, Decidable.not_not, ne_eq] at hg3_21
    simp only [List.take]
    refine Hd.yg rfl rfl (y_move rfl) ?_
    refine Hd.yg rfl rfl (y_gtr rfl rfl) ?_
    first | (refine Hd.yv (y_pickT rfl rfl) ?_) | (refine Hd.yv (y_pickF rfl rfl) ?_) | (refine Hd.yv (y_pickb rfl rfl rfl) ?_) | (refine Hd.yv (y_pick rfl rfl rfl) ?_)
    refine Hd.nil ?_
    exact Hd.mend (by repeat (first | exact trivial | refine ⟨rfl, ?_⟩)) (Ent.sep enn)
  simp only [List.drop]
  refine Hd.yv (y_move rfl) ?_
  apply Hd.org (q := (decide (op ≠ 3) && decide (bits .andNot .i64 ev 37 ≠ 0))) 8 25 33 [(0, _), (1, _), (2, _), (3, _)] rfl ⟨rfl, rfl, rfl, rfl, trivial⟩
  · intro hg3_25
    try simp only [decide_eq_true_eq, decide_eq_false_iff_not, Bool.and_eq_true, Bool.or_eq_true, Bool.and_eq_false_iff, Bool.or_eq_false_iff, Bool.not_eq_true', Bool.not_eq_false', Bool.not_eq_true, Bool.not_eq_false, Int.not_lt, Int.not_le, Decidable.not_not, ne_eq] at hg3_25
    simp only [List.take]
    refine Hd.ng rfl rfl rfl ?_
    refine Hd.ng rfl rfl rfl ?_
    refine Hd.ng rfl rfl rfl ?_
    refine Hd.ng rfl rfl rfl ?_
    refine Hd.ng rfl rfl rfl ?_
    refine Hd.ng rfl rfl rfl ?_
    refine Hd.ng rfl rfl rfl ?_
    first | (refine Hd.yv (y_pickT rfl rfl) ?_) | (refine Hd.yv (y_pickF rfl rfl) ?_) | (refine Hd.yv (y_pickb rfl rfl rfl) ?_) | (refine Hd.yv (y_pick rfl rfl rfl) ?_)
    refine Hd.nil ?_
    exact Hd.mend (by repeat (first | exact trivial | refine ⟨rfl, ?_⟩)) (Ent.sep enn)
  · intro hg3_25
    try simp only [decide_eq_true_eq, decide_eq_false_iff_not, Bool.and_eq_true, Bool.or_eq_true, Bool.and_eq_false_iff, Bool.or_eq_false_iff, Bool.not_eq_true', Bool.not_eq_false', Bool.not_eq_true, Bool.not_eq_false, Int.not_lt, Int.not_le, Decidable.not_not, ne_eq] at hg3_25
    simp only [List.take]
    refine Hd.yg rfl rfl (y_move rfl) ?_
    refine Hd.yg rfl rfl (y_neq rfl rfl) ?_
    refine Hd.yg rfl rfl (y_move rfl) ?_
    apply Hd.andg 4 28 32 [(0, _), (1, _), (2, _), (3, _), (25, _)] rfl ⟨rfl, rfl, rfl, rfl, rfl, trivial⟩
    · intro hg3_28
      try simp only [decide_eq_true_eq, decide_eq_false_iff_not, Bool.and_eq_true, Bool.or_eq_true, Bool.and_eq_false_iff, Bool.or_eq_false_iff, Bool.not_eq_true', Bool.not_eq_false', Bool.not_eq_true, Bool.not_eq_false, Int.not_lt, Int.not_le, Decidable.not_not, ne_eq] at hg3_28
      simp only [List.take]
      refine Hd.yg rfl rfl (y_move rfl) ?_
      refine Hd.yg rfl rfl (y_andNot rfl rfl) ?_
      refine Hd.yg rfl rfl (y_neq rfl rfl) ?_
      first | (refine Hd.yg rfl rfl (y_pickT rfl rfl) ?_) | (refine Hd.yg rfl rfl (y_pickF rfl rfl) ?_) | (refine Hd.yg rfl rfl (y_pickb rfl rfl rfl) ?_) | (refine Hd.yg rfl rfl (y_pick rfl rfl rfl) ?_)
      refine Hd.nil ?_
      exact Hd.mend (by repeat (first | exact trivial | refine ⟨rfl, ?_⟩)) (Ent.sep enn)
    · intro hg3_28
      try simp only [decide_eq_true_eq, decide_eq_false_iff_not, Bool.and_eq_true, Bool.or_eq_true, Bool.and_eq_false_iff, Bool.or_eq_false_iff, Bool.not_eq_true', Bool.not_eq_false', Bool.not_eq_true, Bool.not_eq_false, Int.not_lt, Int.not_le, Decidable.not_not, ne_eq] at hg3_28
      simp only [List.take]
      refine Hd.ng rfl rfl rfl ?_
      refine Hd.ng rfl rfl rfl ?_
      refine Hd.ng rfl rfl rfl ?_
      first | (refine Hd.yg rfl rfl (y_pickT rfl rfl) ?_) | (refine Hd.yg rfl rfl (y_pickF rfl rfl) ?_) | (refine Hd.yg rfl rfl (y_pickb rfl rfl rfl) ?_) | (refine Hd.yg rfl rfl (y_pick rfl rfl rfl) ?_)
      refine Hd.nil ?_
      exact Hd.mend (by repeat (first | exact trivial | refine ⟨rfl, ?_⟩)) (Ent.sep enn)
    simp only [List.drop]
    first | (refine Hd.yv (y_pickT rfl rfl) ?_) | (refine Hd.yv (y_pickF rfl rfl) ?_) | (refine Hd.yv (y_pickb rfl rfl rfl) ?_) | (refine Hd.yv (y_pick rfl rfl rfl) ?_)
    refine Hd.nil ?_
    exact Hd.mend (by repeat (first | exact trivial | refine ⟨rfl, ?_⟩)) (Ent.sep enn)
  simp only [List.drop]
  refine Hd.yv (y_assign rfl) ?_
  refine Hd.nil ?_
  refine Hd.slots [(0, _), (1, _), (2, _), (3, _), (18, _)] ⟨rfl, rfl, rfl, rfl, rfl, trivial⟩ ?_
  refine Hd.toK hK4 ?_
  refine Hd.cond rfl (fun hc1 => ?_) (fun hc1 => ?_)
  ·
    try simp only [decide_eq_true_eq, decide_eq_false_iff_not, Bool.and_eq_true, Bool.or_eq_true, Bool.and_eq_false_iff, Bool.or_eq_false_iff, Bool.not_eq_true', Bool.not_eq_false', Bool.not_eq_true, Bool.not_eq_false, Int.not_lt, Int.not_le, Decidable.not_not, ne_eq] at hc1
    have h1 : (op < 1 ∨ 3 < op) ∨ (op ≠ 3 ∧ bits .andNot .i64 ev 37 ≠ 0) := by simpa using hc1
    refine Hd.seq (fun K5 hK5 => ?_)
    refine Hd.region ?_
    refine Hd.yv (y_assign rfl) ?_
    refine Hd.nil ?_
    refine Hd.slots [(8, _)] ⟨rfl, trivial⟩ ?_
    refine Hd.toK hK5 ?_
    refine Hd.ret ?_
    refine Hd.inBret ?_
    refine Hd.thenRet ?_
    clear hK1 hK2 hK3 hK4 hK5
    rw [show ctlR limit f w op fd ev = (2, f) from if_pos h1]
    exact Hd.ret1 rfl m rfl (Ent.sep (.pure (by omega) enn))
  ·
    try simp only [decide_eq_true_eq, decide_eq_false_iff_not, Bool.and_eq_true, Bool.or_eq_true, Bool.and_eq_false_iff, Bool.or_eq_false_iff, Bool.not_eq_true', Bool.not_eq_false', Bool.not_eq_true, Bool.not_eq_false, Int.not_lt, Int.not_le, Decidable.not_not, ne_eq] at hc1
    have h1 : ¬ ((op < 1 ∨ 3 < op) ∨ (op ≠ 3 ∧ bits .andNot .i64 ev 37 ≠ 0)) := by
      rintro (h | h)
      · omega
      · rcases hc1.2 with h2 | h2
        · exact h.1 h2
        · exact h.2 h2
    refine Hd.skip ?_
    refine Hd.inB ?_
    refine Hd.toK hK2 ?_
    refine Hd.seq (fun K6 hK6 => ?_)
    refine Hd.region ?_
    refine Hd.yv (y_move rfl) ?_
    refine Hd.yv (y_nilp rfl) ?_
    first | (refine Hd.yv (y_field' (q := 0) (ft := 27) Try.underlying51 rfl sz27 rfl rfl) ?_) | (refine Hd.yv (y_fieldR (q := 0) (ft := 27) Try.underlying51 rfl sz27 rfl rfl) ?_)
    first | (refine Hd.yv (y_load1 ag27 rfl (Rd.pt1 pkk (by (first | rfl)))) ?_) | (refine Hd.yv (y_load1 ag27 rfl (Rd.seg1 pkk (by (first | rfl)))) ?_) | (refine Hd.yv (y_loadR1 ag27 rfl (by (first | exact RdS.own pkk)) (by (first | rfl))) ?_)
    refine Hd.yv (y_move rfl) ?_
    refine Hd.callE rfl fk37 (wwire_ct _ wb w fd) (Ent.sep enn) ?_
    intro _
    refine Hd.yv (y_move rfl) ?_
    refine Hd.yv (y_extract rfl rfl) ?_
    refine Hd.yv (y_extract rfl rfl) ?_
    refine Hd.yv (y_to (v' := .int .i64 (wireN (w.at fd))) (y_assign rfl) (by rfl)) ?_
    refine Hd.yv (y_to (v' := .int .i64 (fdErr (w.at fd))) (y_assign rfl) (by rfl)) ?_
    refine Hd.nil ?_
    refine Hd.slots [(0, _), (1, _), (2, _), (3, _), (9, _), (10, _)] ⟨rfl, rfl, rfl, rfl, rfl, rfl, trivial⟩ ?_
    refine Hd.toK hK6 ?_
    refine Hd.seq (fun K7 hK7 => ?_)
    refine Hd.seq (fun K8 hK8 => ?_)
    refine Hd.region ?_
    refine Hd.yv (y_move rfl) ?_
    refine Hd.yv (y_neq rfl rfl) ?_
    refine Hd.nil ?_
    refine Hd.slots [(0, _), (1, _), (2, _), (3, _), (9, _), (44, _)] ⟨rfl, rfl, rfl, rfl, rfl, rfl, trivial⟩ ?_
    refine Hd.toK hK8 ?_
    refine Hd.cond rfl (fun hc2 => ?_) (fun hc2 => ?_)
    ·
      try simp only [decide_eq_true_eq, decide_eq_false_iff_not, Bool.and_eq_true, Bool.or_eq_true, Bool.and_eq_false_iff, Bool.or_eq_false_iff, Bool.not_eq_true', Bool.not_eq_false', Bool.not_eq_true, Bool.not_eq_false, Int.not_lt, Int.not_le, Decidable.not_not, ne_eq] at hc2
      have h2 : w.at fd = none := fdErr_no.1 hc2
      refine Hd.seq (fun K9 hK9 => ?_)
      refine Hd.region ?_
      refine Hd.yv (y_assign rfl) ?_
      refine Hd.nil ?_
      refine Hd.slots [(8, _)] ⟨rfl, trivial⟩ ?_
      refine Hd.toK hK9 ?_
      refine Hd.ret ?_
      refine Hd.thenRet ?_
      clear hK1 hK2 hK3 hK4 hK6 hK7 hK8 hK9
      rw [show ctlR limit f w op fd ev = (110, f) by unfold ctlR; rw [if_neg h1, if_pos h2]]
      exact Hd.ret1 rfl m rfl (Ent.sep (.pure (by omega) enn))
    ·
      try simp only [decide_eq_true_eq, decide_eq_false_iff_not, Bool.and_eq_true, Bool.or_eq_true, Bool.and_eq_false_iff, Bool.or_eq_false_iff, Bool.not_eq_true', Bool.not_eq_false', Bool.not_eq_true, Bool.not_eq_false, Int.not_lt, Int.not_le, Decidable.not_not, ne_eq] at hc2
      have h2 : ¬ (w.at fd = none) := fun h => absurd hc2 (fdErr_no.2 h)
      refine Hd.skip ?_
      refine Hd.toK hK7 ?_
      refine Hd.seq (fun K10 hK10 => ?_)
      refine Hd.region ?_
      refine Hd.yv (y_move rfl) ?_
      refine Hd.yv (y_move rfl) ?_
      refine Hd.callE rfl fk38 (efind_ct _ pb wb mb limit f m w fd) (Ent.sep enn) ?_
      intro _
      refine Hd.yv (y_move rfl) ?_
      refine Hd.yv (y_extract rfl rfl) ?_
      refine Hd.yv (y_extract rfl rfl) ?_
      refine Hd.alloc zr93 (fun b11 => ?_)
      refine Hd.storeA (us := encIx ((findE f w fd).getD zIx)) sz93 rfl rfl rfl (by simp [Value.oneCell']) pkk (by exact rfl) ?_
      refine Hd.yv (y_to (v' := .bool (qE f w fd)) (y_assign rfl) (by rfl)) ?_
      refine Hd.nil ?_
      refine Hd.slots [(0, _), (1, _), (2, _), (3, _), (9, _), (11, _), (12, _)] ⟨rfl, rfl, rfl, rfl, rfl, rfl, rfl, trivial⟩ ?_
      refine Hd.toK hK10 ?_
      refine Hd.seq (fun K11 hK11 => ?_)
      refine Hd.region ?_
      refine Hd.yv (y_move rfl) ?_
      refine Hd.yv (y_nilp rfl) ?_
      first | (refine Hd.yv (y_field' (q := 0) (ft := 27) Try.underlying51 rfl sz27 rfl rfl) ?_) | (refine Hd.yv (y_fieldR (q := 0) (ft := 27) Try.underlying51 rfl sz27 rfl rfl) ?_)
      first | (refine Hd.yv (y_load1 ag27 rfl (Rd.pt1 pkk (by (first | rfl)))) ?_) | (refine Hd.yv (y_load1 ag27 rfl (Rd.seg1 pkk (by (first | rfl)))) ?_) | (refine Hd.yv (y_loadR1 ag27 rfl (by (first | exact RdS.own pkk)) (by (first | rfl))) ?_)
      refine Hd.yv (y_move rfl) ?_
      refine Hd.callE rfl fk39 (wready_ct _ wb w fd) (Ent.sep enn) ?_
      intro _
      refine Hd.alloc zr97 (fun b13 => ?_)
      refine Hd.storeA (us := encR (readyR w fd)) sz97 rfl rfl rfl (by simp [Value.oneCell']) pkk (by exact rfl) ?_
      refine Hd.nil ?_
      refine Hd.slots [(0, _), (1, _), (2, _), (3, _), (9, _), (11, _), (12, _), (13, _)] ⟨rfl, rfl, rfl, rfl, rfl, rfl, rfl, rfl, trivial⟩ ?_
      refine Hd.toK hK11 ?_
      refine Hd.seq (fun K12 hK12 => ?_)
      refine Hd.block ?_
      refine Hd.seq (fun K13 hK13 => ?_)
      refine Hd.region ?_
      refine Hd.yv (y_move rfl) ?_
      first | (refine Hd.yv (y_eqlT rfl rfl) ?_) | (refine Hd.yv (y_eql rfl rfl) ?_)
      refine Hd.yv (y_move rfl) ?_
      apply Hd.andg 2 60 62 [(0, _), (1, _), (2, _), (3, _), (9, _), (11, _), (12, _), (13, _)] rfl ⟨rfl, rfl, rfl, rfl, rfl, rfl, rfl, rfl, trivial⟩
      · intro hg10_60
        try simp only [decide_eq_true_eq, decide_eq_false_iff_not, Bool.and_eq_true, Bool.or_eq_true, Bool.and_eq_false_iff, Bool.or_eq_false_iff, Bool.not_eq_true', Bool.not_eq_false', Bool.not_eq_true, Bool.not_eq_false, Int.not_lt, Int.not_le, Decidable.not_not, ne_eq] at hg10_60
        simp only [List.take]
        refine Hd.yg rfl rfl (y_move rfl) ?_
        first | (refine Hd.yv (y_pickT rfl rfl) ?_) | (refine Hd.yv (y_pickF rfl rfl) ?_) | (refine Hd.yv (y_pickb rfl rfl rfl) ?_) | (refine Hd.yv (y_pick rfl rfl rfl) ?_)
        refine Hd.nil ?_
        exact Hd.mend (by repeat (first | exact trivial | refine ⟨rfl, ?_⟩)) (Ent.sep enn)
      · intro hg10_60
        try simp only [decide_eq_true_eq, decide_eq_false_iff_not, Bool.and_eq_true, Bool.or_eq_true, Bool.and_eq_false_iff, Bool.or_eq_false_iff, Bool.not_eq_true', Bool.not_eq_false', Bool.not_eq_true, Bool.not_eq_false, Int.not_lt, Int.not_le, Decidable.not_not, ne_eq] at hg10_60
        simp only [List.take]
        refine Hd.ng rfl rfl rfl ?_
        first | (refine Hd.yv (y_pickT rfl rfl) ?_) | (refine Hd.yv (y_pickF rfl rfl) ?_) | (refine Hd.yv (y_pickb rfl rfl rfl) ?_) | (refine Hd.yv (y_pick rfl rfl rfl) ?_)
        refine Hd.nil ?_
        exact Hd.mend (by repeat (first | exact trivial | refine ⟨rfl, ?_⟩)) (Ent.sep enn)
      simp only [List.drop]
      refine Hd.yv (y_to (v' := .bool (decide (op = 1) && qE f w fd)) (y_assign rfl) (by rfl)) ?_
      refine Hd.nil ?_
      refine Hd.slots [(0, _), (1, _), (2, _), (3, _), (9, _), (11, _), (12, _), (13, _), (57, _)] ⟨rfl, rfl, rfl, rfl, rfl, rfl, rfl, rfl, rfl, trivial⟩ ?_
      refine Hd.toK hK13 ?_
      refine Hd.cond rfl (fun hc3 => ?_) (fun hc3 => ?_)
      ·
        try simp only [decide_eq_true_eq, decide_eq_false_iff_not, Bool.and_eq_true, Bool.or_eq_true, Bool.and_eq_false_iff, Bool.or_eq_false_iff, Bool.not_eq_true', Bool.not_eq_false', Bool.not_eq_true, Bool.not_eq_false, Int.not_lt, Int.not_le, Decidable.not_not, ne_eq] at hc3
        refine Hd.seq (fun K14 hK14 => ?_)
        refine Hd.region ?_
        refine Hd.yv (y_assign rfl) ?_
        refine Hd.nil ?_
        refine Hd.slots [(8, _)] ⟨rfl, trivial⟩ ?_
        refine Hd.toK hK14 ?_
        refine Hd.ret ?_
        refine Hd.inBret ?_
        refine Hd.thenRet ?_
        clear hK1 hK2 hK3 hK4 hK6 hK7 hK8 hK10 hK11 hK12 hK13 hK14
        rw [show ctlR limit f w op fd ev = (150, f) by unfold ctlR; rw [if_neg h1, if_neg h2, if_pos hc3]]
        exact Hd.ret1 rfl m rfl (Ent.sep (.pure (by omega) enn))
      ·
        try simp only [decide_eq_true_eq, decide_eq_false_iff_not, Bool.and_eq_true, Bool.or_eq_true, Bool.and_eq_false_iff, Bool.or_eq_false_iff, Bool.not_eq_true', Bool.not_eq_false', Bool.not_eq_true, Bool.not_eq_false, Int.not_lt, Int.not_le, Decidable.not_not, ne_eq] at hc3
        have h3 : ¬ (op = 1 ∧ qE f w fd = true) := fun h => by
          rcases hc3 with h4 | h4
          · exact h4 h.1
          · rw [h.2] at h4; cases h4
        refine Hd.seq (fun K15 hK15 => ?_)
        refine Hd.drawsH ([EpH pb wb mb limit]) (fun _ => true) mixed ?_
        simp only [List.length, Nat.zero_add, Nat.reduceAdd]
        refine Hd.takeH 0 rfl (by kernel_rfl) (by kernel_rfl) (by kernel_rfl) (by kernel_rfl) (y_move rfl) (fun _ _ => rfl) (Ent.sep enn) ?_
        first | (refine Hd.takeH 1 rfl (by kernel_rfl) (by kernel_rfl) (by kernel_rfl) (by kernel_rfl) (y_eqlT rfl rfl) (fun _ _ => rfl) (Ent.sep enn) ?_) | (refine Hd.takeH 1 rfl (by kernel_rfl) (by kernel_rfl) (by kernel_rfl) (by kernel_rfl) (y_eql rfl rfl) (fun _ _ => rfl) (Ent.sep enn) ?_)
        refine Hd.takeH 2 rfl (by kernel_rfl) (by kernel_rfl) (by kernel_rfl) (by kernel_rfl) (y_move rfl) (fun _ _ => rfl) (Ent.sep enn) ?_
        refine Hd.part (gd := 66) rfl (fun hg12_66 => ?_) (fun hg12_66 => ?_)
        ·
          try simp only [decide_eq_true_eq, decide_eq_false_iff_not, Bool.and_eq_true, Bool.or_eq_true, Bool.and_eq_false_iff, Bool.or_eq_false_iff, Bool.not_eq_true', Bool.not_eq_false', Bool.not_eq_true, Bool.not_eq_false, Int.not_lt, Int.not_le, Decidable.not_not, ne_eq] at hg12_66
          have ho : op = 1 := hg12_66
          refine Hd.takegH 3 rfl (by kernel_rfl) (by kernel_rfl) (by kernel_rfl) (by kernel_rfl) rfl rfl (y_move rfl) (fun _ _ => rfl) (Ent.sep enn) ?_
          refine Hd.takegH 6 rfl (by kernel_rfl) (by kernel_rfl) (by kernel_rfl) (by kernel_rfl) rfl rfl (y_move rfl) (fun _ _ => rfl) (Ent.sep enn) ?_
          refine Hd.takegH 7 rfl (by kernel_rfl) (by kernel_rfl) (by kernel_rfl) (by kernel_rfl) rfl rfl (y_nilp rfl) (fun _ _ => rfl) (Ent.sep enn) ?_
          first | (refine Hd.takegH 8 rfl (by kernel_rfl) (by kernel_rfl) (by kernel_rfl) (by kernel_rfl) rfl rfl (y_field' (q := 1) (ft := 3) Try.underlying51 rfl sz3 rfl rfl) (fun _ _ => rfl) (Ent.sep enn) ?_) | (refine Hd.takegH 8 rfl (by kernel_rfl) (by kernel_rfl) (by kernel_rfl) (by kernel_rfl) rfl rfl (y_fieldR (q := 1) (ft := 3) Try.underlying51 rfl sz3 rfl rfl) (fun _ _ => rfl) (Ent.sep enn) ?_)
          first | (refine Hd.takegH 9 rfl (by kernel_rfl) (by kernel_rfl) (by kernel_rfl) (by kernel_rfl) rfl rfl (y_load1 ag3 rfl (Rd.pt1 pkk (by (first | rfl)))) (fun _ _ => rfl) (Ent.sep enn) ?_) | (refine Hd.takegH 9 rfl (by kernel_rfl) (by kernel_rfl) (by kernel_rfl) (by kernel_rfl) rfl rfl (y_load1 ag3 rfl (Rd.seg1 pkk (by (first | rfl)))) (fun _ _ => rfl) (Ent.sep enn) ?_) | (refine Hd.takegH 9 rfl (by kernel_rfl) (by kernel_rfl) (by kernel_rfl) (by kernel_rfl) rfl rfl (y_loadR1 ag3 rfl (by (first | exact RdS.own pkk)) (by (first | rfl))) (fun _ _ => rfl) (Ent.sep enn) ?_)
          refine Hd.onlyH 4 rfl (by kernel_rfl) ?_
          refine Hd.unguard rfl rfl ?_
          refine Hd.callE rfl fk40 (all_ct _ pb wb mb limit f m hm w) (Ent.sep enn) ?_
          rintro ⟨ka, kc, ks⟩
          dsimp only
          refine Hd.pure (fun hA => ?_)
          obtain rfl := hA.eq hw
          clear hA
          refine Hd.nil ?_
          refine Hd.thenN ?_
          refine Hd.heldK (J := (fun _ => true)) (i := 4) (Ent.sep enn) ?_
          refine Hd.takegH 5 rfl (by kernel_rfl) (by kernel_rfl) (by kernel_rfl) (by kernel_rfl) rfl rfl (y_len Try.underlying22 rfl) (fun _ _ => rfl) (Ent.sep enn) ?_
          refine Hd.takegH 10 rfl (by kernel_rfl) (by kernel_rfl) (by kernel_rfl) (by kernel_rfl) rfl rfl (y_geq rfl rfl) (fun _ _ => rfl) (Ent.sep enn) ?_
          first | (refine Hd.takeH 11 rfl (by kernel_rfl) (by kernel_rfl) (by kernel_rfl) (by kernel_rfl) (y_pickT rfl rfl) (fun _ _ => rfl) (Ent.sep enn) ?_) | (refine Hd.takeH 11 rfl (by kernel_rfl) (by kernel_rfl) (by kernel_rfl) (by kernel_rfl) (y_pickF rfl rfl) (fun _ _ => rfl) (Ent.sep enn) ?_) | (refine Hd.takeH 11 rfl (by kernel_rfl) (by kernel_rfl) (by kernel_rfl) (by kernel_rfl) (y_pickb rfl rfl rfl) (fun _ _ => rfl) (Ent.sep enn) ?_) | (refine Hd.takeH 11 rfl (by kernel_rfl) (by kernel_rfl) (by kernel_rfl) (by kernel_rfl) (y_pick rfl rfl rfl) (fun _ _ => rfl) (Ent.sep enn) ?_)
          refine Hd.takeH 12 rfl (by kernel_rfl) (by kernel_rfl) (by kernel_rfl) (by kernel_rfl) (y_assign rfl) (fun _ _ => rfl) (Ent.sep enn) ?_
          refine Hd.endH (by kernel_rfl) ?_
          refine Hd.slots [(0, _), (1, _), (2, _), (3, _), (9, _), (11, _), (12, _), (13, _), (63, _)] ⟨rfl, rfl, rfl, rfl, rfl, rfl, rfl, rfl, rfl, trivial⟩ ?_
          refine Hd.toK hK15 ?_
          refine Hd.cond rfl (fun hc4 => ?_) (fun hc4 => ?_)
          ·
            try simp only [decide_eq_true_eq, decide_eq_false_iff_not, Bool.and_eq_true, Bool.or_eq_true, Bool.and_eq_false_iff, Bool.or_eq_false_iff, Bool.not_eq_true', Bool.not_eq_false', Bool.not_eq_true, Bool.not_eq_false, Int.not_lt, Int.not_le, Decidable.not_not, ne_eq] at hc4
            refine Hd.seq (fun K16 hK16 => ?_)
            refine Hd.region ?_
            refine Hd.yv (y_assign rfl) ?_
            refine Hd.nil ?_
            refine Hd.slots [(8, _)] ⟨rfl, trivial⟩ ?_
            refine Hd.toK hK16 ?_
            refine Hd.ret ?_
            refine Hd.inBret ?_
            refine Hd.thenRet ?_
            clear hK1 hK2 hK3 hK4 hK6 hK7 hK8 hK10 hK11 hK12 hK13 hK15 hK16
            rw [show ctlR limit f w op fd ev = (152, f) by unfold ctlR; rw [if_neg h1, if_neg h2, if_neg h3, if_pos ⟨ho, hc4⟩]]
            exact Hd.ret1 rfl m rfl (Ent.sep (.pure (by omega) enn))
          ·
            try simp only [decide_eq_true_eq, decide_eq_false_iff_not, Bool.and_eq_true, Bool.or_eq_true, Bool.and_eq_false_iff, Bool.or_eq_false_iff, Bool.not_eq_true', Bool.not_eq_false', Bool.not_eq_true, Bool.not_eq_false, Int.not_lt, Int.not_le, Decidable.not_not, ne_eq] at hc4
            have h4 : ¬ (op = 1 ∧ limit ≤ ((allL f w).length : Int)) := fun h => by omega
            refine Hd.seq (fun K17 hK17 => ?_)
            refine Hd.region ?_
            refine Hd.yv (y_move rfl) ?_
            first | (refine Hd.yv (y_eqlT rfl rfl) ?_) | (refine Hd.yv (y_eql rfl rfl) ?_)
            refine Hd.yv (y_assign rfl) ?_
            refine Hd.nil ?_
            refine Hd.slots [(0, _), (1, _), (2, _), (3, _), (9, _), (11, _), (12, _), (13, _), (76, _)] ⟨rfl, rfl, rfl, rfl, rfl, rfl, rfl, rfl, rfl, trivial⟩ ?_
            refine Hd.toK hK17 ?_
            refine Hd.cond rfl (fun hc5 => ?_) (fun hc5 => ?_)
            ·
              try simp only [decide_eq_true_eq, decide_eq_false_iff_not, Bool.and_eq_true, Bool.or_eq_true, Bool.and_eq_false_iff, Bool.or_eq_false_iff, Bool.not_eq_true', Bool.not_eq_false', Bool.not_eq_true, Bool.not_eq_false, Int.not_lt, Int.not_le, Decidable.not_not, ne_eq] at hc5
              refine Hd.seq (fun K18 hK18 => ?_)
              refine Hd.tail 14 mixed (by kernel_rfl) ?_
              simp only [List.take, List.drop]
              refine Ht.yv (y_move rfl) ?_
              refine Ht.yv (y_nilp rfl) ?_
              first | (refine Ht.yv (y_field' (q := 2) (ft := 49) Try.underlying51 rfl sz49 rfl rfl) ?_) | (refine Ht.yv (y_fieldR (q := 2) (ft := 49) Try.underlying51 rfl sz49 rfl rfl) ?_)
              first | (refine Ht.yv (y_load1 ag49 rfl (Rd.pt1 pkk (by (first | rfl)))) ?_) | (refine Ht.yv (y_load1 ag49 rfl (Rd.seg1 pkk (by (first | rfl)))) ?_) | (refine Ht.yv (y_loadR1 ag49 rfl (by (first | exact RdS.own pkk)) (by (first | rfl))) ?_)
              refine Ht.yv (y_move rfl) ?_
              refine Ht.yv (y_move rfl) ?_
              refine Ht.yv (y_move rfl) ?_
              refine Ht.yv (y_move rfl) ?_
              refine Ht.yv (y_and rfl rfl) ?_
              first | (refine Ht.yv (y_field' (q := 5) (ft := 78) Try.underlying97 rfl sz78 rfl rfl) ?_) | (refine Ht.yv (y_fieldR (q := 5) (ft := 78) Try.underlying97 rfl sz78 rfl rfl) ?_)
              first | (refine Ht.yv (y_load1 ag78 rfl (Rd.pt1 pkk (by (first | rfl)))) ?_) | (refine Ht.yv (y_load1 ag78 rfl (Rd.seg1 pkk (by (first | rfl)))) ?_) | (refine Ht.yv (y_loadR1 ag78 rfl (by (first | exact RdS.own pkk)) (by (first | rfl))) ?_)
              first | (refine Ht.yv (y_field' (q := 6) (ft := 78) Try.underlying97 rfl sz78 rfl rfl) ?_) | (refine Ht.yv (y_fieldR (q := 6) (ft := 78) Try.underlying97 rfl sz78 rfl rfl) ?_)
              first | (refine Ht.yv (y_load1 ag78 rfl (Rd.pt1 pkk (by (first | rfl)))) ?_) | (refine Ht.yv (y_load1 ag78 rfl (Rd.seg1 pkk (by (first | rfl)))) ?_) | (refine Ht.yv (y_loadR1 ag78 rfl (by (first | exact RdS.own pkk)) (by (first | rfl))) ?_)
              refine Ht.yv (y_build (vs := [(0, _), (1, _), (2, _), (3, _), (4, _)]) rfl (by first | exact bd11_92 .. | kernel_rfl)) ?_
              refine Ht.nil ?_
              refine Hd.mapUpdate mapt49 rfl rfl rfl pkk ?_
              refine Hd.nil ?_
              rw [show (Value.agg #[.int .i64 (wireN (w.at fd)), .int .i64 ev, .int .i64 (bits .and .i64 ev 5), .int .u64 (readyR w fd).r, .int .u64 (readyR w fd).w]) = .agg (encIx (addX w fd ev)).toArray from rfl, ← fmap_upd]
              refine Hd.slots [] trivial ?_
              refine Hd.toK hK18 ?_
              refine Hd.seq (fun K19 hK19 => ?_)
              refine Hd.region ?_
              refine Hd.yv (y_assign rfl) ?_
              refine Hd.nil ?_
              refine Hd.slots [(8, _)] ⟨rfl, trivial⟩ ?_
              refine Hd.toK hK19 ?_
              refine Hd.ret ?_
              refine Hd.inBret ?_
              refine Hd.thenRet ?_
              clear hK1 hK2 hK3 hK4 hK6 hK7 hK8 hK10 hK11 hK12 hK13 hK15 hK17 hK18 hK19
              rw [show ctlR limit f w op fd ev = (0, updF f fd (some (addX w fd ev))) by unfold ctlR; rw [if_neg h1, if_neg h2, if_neg h3, if_neg h4, if_pos ho]]
              exact Hd.ret1 rfl (if (fmap f fd).isSome then m else m + 1) rfl (Ent.sep (.pure (by split <;> omega) enn))
            ·
              try simp only [decide_eq_true_eq, decide_eq_false_iff_not, Bool.and_eq_true, Bool.or_eq_true, Bool.and_eq_false_iff, Bool.or_eq_false_iff, Bool.not_eq_true', Bool.not_eq_false', Bool.not_eq_true, Bool.not_eq_false, Int.not_lt, Int.not_le, Decidable.not_not, ne_eq] at hc5
              exact absurd ho hc5
        ·
          try simp only [decide_eq_true_eq, decide_eq_false_iff_not, Bool.and_eq_true, Bool.or_eq_true, Bool.and_eq_false_iff, Bool.or_eq_false_iff, Bool.not_eq_true', Bool.not_eq_false', Bool.not_eq_true, Bool.not_eq_false, Int.not_lt, Int.not_le, Decidable.not_not, ne_eq] at hg12_66
          have ho : op ≠ 1 := hg12_66
          refine Hd.takenH 3 rfl (by kernel_rfl) (by kernel_rfl) (by kernel_rfl) (by kernel_rfl) rfl rfl rfl (fun _ _ => rfl) (Ent.sep enn) ?_
          refine Hd.takenH 6 rfl (by kernel_rfl) (by kernel_rfl) (by kernel_rfl) (by kernel_rfl) rfl rfl rfl (fun _ _ => rfl) (Ent.sep enn) ?_
          refine Hd.takenH 7 rfl (by kernel_rfl) (by kernel_rfl) (by kernel_rfl) (by kernel_rfl) rfl rfl rfl (fun _ _ => rfl) (Ent.sep enn) ?_
          refine Hd.takenH 8 rfl (by kernel_rfl) (by kernel_rfl) (by kernel_rfl) (by kernel_rfl) rfl rfl rfl (fun _ _ => rfl) (Ent.sep enn) ?_
          refine Hd.takenH 9 rfl (by kernel_rfl) (by kernel_rfl) (by kernel_rfl) (by kernel_rfl) rfl rfl rfl (fun _ _ => rfl) (Ent.sep enn) ?_
          refine Hd.onlyH 4 rfl (by kernel_rfl) ?_
          refine Hd.ng rfl rfl rfl ?_
          refine Hd.nil ?_
          refine Hd.thenN ?_
          refine Hd.heldK (J := (fun _ => true)) (i := 4) (Ent.sep enn) ?_
          refine Hd.takenH 5 rfl (by kernel_rfl) (by kernel_rfl) (by kernel_rfl) (by kernel_rfl) rfl rfl rfl (fun _ _ => rfl) (Ent.sep enn) ?_
          refine Hd.takenH 10 rfl (by kernel_rfl) (by kernel_rfl) (by kernel_rfl) (by kernel_rfl) rfl rfl rfl (fun _ _ => rfl) (Ent.sep enn) ?_
          first | (refine Hd.takeH 11 rfl (by kernel_rfl) (by kernel_rfl) (by kernel_rfl) (by kernel_rfl) (y_pickT rfl rfl) (fun _ _ => rfl) (Ent.sep enn) ?_) | (refine Hd.takeH 11 rfl (by kernel_rfl) (by kernel_rfl) (by kernel_rfl) (by kernel_rfl) (y_pickF rfl rfl) (fun _ _ => rfl) (Ent.sep enn) ?_) | (refine Hd.takeH 11 rfl (by kernel_rfl) (by kernel_rfl) (by kernel_rfl) (by kernel_rfl) (y_pickb rfl rfl rfl) (fun _ _ => rfl) (Ent.sep enn) ?_) | (refine Hd.takeH 11 rfl (by kernel_rfl) (by kernel_rfl) (by kernel_rfl) (by kernel_rfl) (y_pick rfl rfl rfl) (fun _ _ => rfl) (Ent.sep enn) ?_)
          refine Hd.takeH 12 rfl (by kernel_rfl) (by kernel_rfl) (by kernel_rfl) (by kernel_rfl) (y_assign rfl) (fun _ _ => rfl) (Ent.sep enn) ?_
          refine Hd.endH (by kernel_rfl) ?_
          refine Hd.slots [(0, _), (1, _), (2, _), (3, _), (9, _), (11, _), (12, _), (13, _), (63, _)] ⟨rfl, rfl, rfl, rfl, rfl, rfl, rfl, rfl, rfl, trivial⟩ ?_
          refine Hd.toK hK15 ?_
          refine Hd.cond rfl (fun hc4 => ?_) (fun hc4 => ?_)
          ·
            try simp only [decide_eq_true_eq, decide_eq_false_iff_not, Bool.and_eq_true, Bool.or_eq_true, Bool.and_eq_false_iff, Bool.or_eq_false_iff, Bool.not_eq_true', Bool.not_eq_false', Bool.not_eq_true, Bool.not_eq_false, Int.not_lt, Int.not_le, Decidable.not_not, ne_eq] at hc4
            exact absurd hc4 (by simp)
          ·
            try simp only [decide_eq_true_eq, decide_eq_false_iff_not, Bool.and_eq_true, Bool.or_eq_true, Bool.and_eq_false_iff, Bool.or_eq_false_iff, Bool.not_eq_true', Bool.not_eq_false', Bool.not_eq_true, Bool.not_eq_false, Int.not_lt, Int.not_le, Decidable.not_not, ne_eq] at hc4
            have h4 : ¬ (op = 1 ∧ limit ≤ ((allL f w).length : Int)) := fun h => ho h.1
            refine Hd.seq (fun K20 hK20 => ?_)
            refine Hd.region ?_
            refine Hd.yv (y_move rfl) ?_
            first | (refine Hd.yv (y_eqlT rfl rfl) ?_) | (refine Hd.yv (y_eql rfl rfl) ?_)
            refine Hd.yv (y_assign rfl) ?_
            refine Hd.nil ?_
            refine Hd.slots [(0, _), (1, _), (2, _), (3, _), (9, _), (11, _), (12, _), (13, _), (76, _)] ⟨rfl, rfl, rfl, rfl, rfl, rfl, rfl, rfl, rfl, trivial⟩ ?_
            refine Hd.toK hK20 ?_
            refine Hd.cond rfl (fun hc5 => ?_) (fun hc5 => ?_)
            ·
              try simp only [decide_eq_true_eq, decide_eq_false_iff_not, Bool.and_eq_true, Bool.or_eq_true, Bool.and_eq_false_iff, Bool.or_eq_false_iff, Bool.not_eq_true', Bool.not_eq_false', Bool.not_eq_true, Bool.not_eq_false, Int.not_lt, Int.not_le, Decidable.not_not, ne_eq] at hc5
              exact absurd hc5 ho
            ·
              try simp only [decide_eq_true_eq, decide_eq_false_iff_not, Bool.and_eq_true, Bool.or_eq_true, Bool.and_eq_false_iff, Bool.or_eq_false_iff, Bool.not_eq_true', Bool.not_eq_false', Bool.not_eq_true, Bool.not_eq_false, Int.not_lt, Int.not_le, Decidable.not_not, ne_eq] at hc5
              refine Hd.seq (fun K21 hK21 => ?_)
              refine Hd.region ?_
              refine Hd.yv (y_move rfl) ?_
              refine Hd.yv (y_not rfl) ?_
              refine Hd.yv (y_assign rfl) ?_
              refine Hd.nil ?_
              refine Hd.slots [(0, _), (1, _), (2, _), (3, _), (9, _), (11, _), (13, _), (93, _)] ⟨rfl, rfl, rfl, rfl, rfl, rfl, rfl, rfl, trivial⟩ ?_
              refine Hd.toK hK21 ?_
              refine Hd.cond rfl (fun hc6 => ?_) (fun hc6 => ?_)
              ·
                try simp only [decide_eq_true_eq, decide_eq_false_iff_not, Bool.and_eq_true, Bool.or_eq_true, Bool.and_eq_false_iff, Bool.or_eq_false_iff, Bool.not_eq_true', Bool.not_eq_false', Bool.not_eq_true, Bool.not_eq_false, Int.not_lt, Int.not_le, Decidable.not_not, ne_eq] at hc6
                refine Hd.seq (fun K22 hK22 => ?_)
                refine Hd.region ?_
                refine Hd.yv (y_assign rfl) ?_
                refine Hd.nil ?_
                refine Hd.slots [(8, _)] ⟨rfl, trivial⟩ ?_
                refine Hd.toK hK22 ?_
                refine Hd.ret ?_
                refine Hd.inBret ?_
                refine Hd.thenRet ?_
                clear hK1 hK2 hK3 hK4 hK6 hK7 hK8 hK10 hK11 hK12 hK13 hK15 hK20 hK21 hK22
                rw [show ctlR limit f w op fd ev = (151, f) by unfold ctlR; rw [if_neg h1, if_neg h2, if_neg h3, if_neg h4, if_neg ho, if_pos hc6]]
                exact Hd.ret1 rfl m rfl (Ent.sep (.pure (by omega) enn))
              ·
                try simp only [decide_eq_true_eq, decide_eq_false_iff_not, Bool.and_eq_true, Bool.or_eq_true, Bool.and_eq_false_iff, Bool.or_eq_false_iff, Bool.not_eq_true', Bool.not_eq_false', Bool.not_eq_true, Bool.not_eq_false, Int.not_lt, Int.not_le, Decidable.not_not, ne_eq] at hc6
                have h6 : ¬ (qE f w fd = false) := fun h => by rw [h] at hc6; cases hc6
                refine Hd.seq (fun K23 hK23 => ?_)
                refine Hd.region ?_
                refine Hd.yv (y_move rfl) ?_
                first | (refine Hd.yv (y_eqlT rfl rfl) ?_) | (refine Hd.yv (y_eql rfl rfl) ?_)
                refine Hd.yv (y_assign rfl) ?_
                refine Hd.nil ?_
                refine Hd.slots [(0, _), (2, _), (3, _), (9, _), (11, _), (13, _), (96, _)] ⟨rfl, rfl, rfl, rfl, rfl, rfl, rfl, trivial⟩ ?_
                refine Hd.toK hK23 ?_
                refine Hd.cond rfl (fun hc7 => ?_) (fun hc7 => ?_)
                ·
                  try simp only [decide_eq_true_eq, decide_eq_false_iff_not, Bool.and_eq_true, Bool.or_eq_true, Bool.and_eq_false_iff, Bool.or_eq_false_iff, Bool.not_eq_true', Bool.not_eq_false', Bool.not_eq_true, Bool.not_eq_false, Int.not_lt, Int.not_le, Decidable.not_not, ne_eq] at hc7
                  refine Hd.seq (fun K24 hK24 => ?_)
                  refine Hd.region ?_
                  refine Hd.yv (y_move rfl) ?_
                  refine Hd.yv (y_nilp rfl) ?_
                  first | (refine Hd.yv (y_field' (q := 2) (ft := 49) Try.underlying51 rfl sz49 rfl rfl) ?_) | (refine Hd.yv (y_fieldR (q := 2) (ft := 49) Try.underlying51 rfl sz49 rfl rfl) ?_)
                  first | (refine Hd.yv (y_load1 ag49 rfl (Rd.pt1 pkk (by (first | rfl)))) ?_) | (refine Hd.yv (y_load1 ag49 rfl (Rd.seg1 pkk (by (first | rfl)))) ?_) | (refine Hd.yv (y_loadR1 ag49 rfl (by (first | exact RdS.own pkk)) (by (first | rfl))) ?_)
                  refine Hd.yv (y_move rfl) ?_
                  refine Hd.mapDelete0 mapt49 rfl rfl pkk ?_
                  refine Hd.nil ?_
                  rw [← fmap_del]
                  refine Hd.slots [] trivial ?_
                  refine Hd.toK hK24 ?_
                  refine Hd.seq (fun K25 hK25 => ?_)
                  refine Hd.region ?_
                  refine Hd.yv (y_assign rfl) ?_
                  refine Hd.nil ?_
                  refine Hd.slots [(8, _)] ⟨rfl, trivial⟩ ?_
                  refine Hd.toK hK25 ?_
                  refine Hd.ret ?_
                  refine Hd.inBret ?_
                  refine Hd.thenRet ?_
                  clear hK1 hK2 hK3 hK4 hK6 hK7 hK8 hK10 hK11 hK12 hK13 hK15 hK20 hK21 hK23 hK24 hK25
                  rw [show ctlR limit f w op fd ev = (0, updF f fd none) by unfold ctlR; rw [if_neg h1, if_neg h2, if_neg h3, if_neg h4, if_neg ho, if_neg h6, if_pos hc7]]
                  exact Hd.ret1 rfl (if (fmap f fd).isSome then m - 1 else m) rfl (Ent.sep (.pure (by split <;> omega) enn))
                ·
                  try simp only [decide_eq_true_eq, decide_eq_false_iff_not, Bool.and_eq_true, Bool.or_eq_true, Bool.and_eq_false_iff, Bool.or_eq_false_iff, Bool.not_eq_true', Bool.not_eq_false', Bool.not_eq_true, Bool.not_eq_false, Int.not_lt, Int.not_le, Decidable.not_not, ne_eq] at hc7
                  refine Hd.skip ?_
                  refine Hd.inB ?_
                  refine Hd.toK hK12 ?_
                  refine Hd.seq (fun K26 hK26 => ?_)
                  refine Hd.quiet mixed (by kernel_rfl) ?_
                  first | (refine Hq.yv (y_loadn (us := [_, _, _, _, _]) ag93 rfl (Rd.pt pkk (by (first | (intro j v e; rcases j with _|_|_|_|_|_|_|_|_|_|_|_|j <;> first | exact e | exact absurd e (by simp))))) (by exact sz93)) ?_) | (refine Hq.yv (y_loadn (us := [_, _, _, _, _]) ag93 rfl (Rd.seg pkk (by (first | (intro j v e; rcases j with _|_|_|_|_|_|_|_|_|_|_|_|j <;> first | exact e | exact absurd e (by simp))))) (by exact sz93)) ?_) | (refine Hq.yv (y_loadRn ag93 rfl (by (first | exact RdS.own pkk)) (by (first | (intro j v e; rcases j with _|_|_|_|_|_|_|_|_|_|_|_|j <;> first | exact e | exact absurd e (by simp)))) (by exact sz93) (by simp)) ?_)
                  first | (refine Hq.yv (y_loadn (us := [_, _, _, _, _, _, _]) ag97 rfl (Rd.pt pkk (by (first | (intro j v e; rcases j with _|_|_|_|_|_|_|_|_|_|_|_|j <;> first | exact e | exact absurd e (by simp))))) (by exact sz97)) ?_) | (refine Hq.yv (y_loadn (us := [_, _, _, _, _, _, _]) ag97 rfl (Rd.seg pkk (by (first | (intro j v e; rcases j with _|_|_|_|_|_|_|_|_|_|_|_|j <;> first | exact e | exact absurd e (by simp))))) (by exact sz97)) ?_) | (refine Hq.yv (y_loadRn ag97 rfl (by (first | exact RdS.own pkk)) (by (first | (intro j v e; rcases j with _|_|_|_|_|_|_|_|_|_|_|_|j <;> first | exact e | exact absurd e (by simp)))) (by exact sz97) (by simp)) ?_)
                  refine Hq.call rfl fk41 (risen_ct _ ((findE f w fd).getD zIx) (readyR w fd)) ?_
                  refine Hq.yv (y_move rfl) ?_
                  refine Hq.yv (y_and rfl rfl) ?_
                  first | (refine Hq.yv (y_field' (q := 1) (ft := 3) Try.underlying93 rfl sz3 rfl rfl) ?_) | (refine Hq.yv (y_fieldR (q := 1) (ft := 3) Try.underlying93 rfl sz3 rfl rfl) ?_)
                  first | (refine Hq.yv (y_load1 ag3 rfl (Rd.pt1 pkk (by (first | rfl)))) ?_) | (refine Hq.yv (y_load1 ag3 rfl (Rd.seg1 pkk (by (first | rfl)))) ?_) | (refine Hq.yv (y_loadR1 ag3 rfl (by (first | exact RdS.own pkk)) (by (first | rfl))) ?_)
                  refine Hq.yv (y_andNot rfl rfl) ?_
                  refine Hq.yv (y_or rfl rfl) ?_
                  refine Hq.yv (y_assign rfl) ?_
                  refine Hq.nil ?_
                  refine Hd.slots [(0, _), (2, _), (3, _), (9, _), (11, _), (13, _), (14, _)] ⟨rfl, rfl, rfl, rfl, rfl, rfl, rfl, trivial⟩ ?_
                  refine Hd.toK hK26 ?_
                  refine Hd.seq (fun K27 hK27 => ?_)
                  refine Hd.seq (fun K28 hK28 => ?_)
                  refine Hd.region ?_
                  first | (refine Hd.yv (y_field' (q := 1) (ft := 3) Try.underlying93 rfl sz3 rfl rfl) ?_) | (refine Hd.yv (y_fieldR (q := 1) (ft := 3) Try.underlying93 rfl sz3 rfl rfl) ?_)
                  first | (refine Hd.yv (y_load1 ag3 rfl (Rd.pt1 pkk (by (first | rfl)))) ?_) | (refine Hd.yv (y_load1 ag3 rfl (Rd.seg1 pkk (by (first | rfl)))) ?_) | (refine Hd.yv (y_loadR1 ag3 rfl (by (first | exact RdS.own pkk)) (by (first | rfl))) ?_)
                  refine Hd.yv (y_and rfl rfl) ?_
                  first | (refine Hd.yv (y_eqlT rfl rfl) ?_) | (refine Hd.yv (y_eql rfl rfl) ?_)
                  refine Hd.nil ?_
                  refine Hd.slots [(0, _), (2, _), (3, _), (9, _), (13, _), (14, _), (116, _)] ⟨rfl, rfl, rfl, rfl, rfl, rfl, rfl, trivial⟩ ?_
                  refine Hd.toK hK28 ?_
                  refine Hd.cond rfl (fun hc8 => ?_) (fun hc8 => ?_)
                  ·
                    try simp only [decide_eq_true_eq, decide_eq_false_iff_not, Bool.and_eq_true, Bool.or_eq_true, Bool.and_eq_false_iff, Bool.or_eq_false_iff, Bool.not_eq_true', Bool.not_eq_false', Bool.not_eq_true, Bool.not_eq_false, Int.not_lt, Int.not_le, Decidable.not_not, ne_eq] at hc8
                    refine Hd.region ?_
                    refine Hd.yv (y_assign rfl) ?_
                    refine Hd.nil ?_
                    refine Hd.slots [(0, _), (2, _), (3, _), (9, _), (13, _), (14, _)] ⟨rfl, rfl, rfl, rfl, rfl, rfl, trivial⟩ ?_
                    refine Hd.toK hK27 ?_
                    refine Hd.seq (fun K29 hK29 => ?_)
                    refine Hd.tail 15 mixed (by kernel_rfl) ?_
                    simp only [List.take, List.drop]
                    refine Ht.yv (y_move rfl) ?_
                    refine Ht.yv (y_nilp rfl) ?_
                    first | (refine Ht.yv (y_field' (q := 2) (ft := 49) Try.underlying51 rfl sz49 rfl rfl) ?_) | (refine Ht.yv (y_fieldR (q := 2) (ft := 49) Try.underlying51 rfl sz49 rfl rfl) ?_)
                    first | (refine Ht.yv (y_load1 ag49 rfl (Rd.pt1 pkk (by (first | rfl)))) ?_) | (refine Ht.yv (y_load1 ag49 rfl (Rd.seg1 pkk (by (first | rfl)))) ?_) | (refine Ht.yv (y_loadR1 ag49 rfl (by (first | exact RdS.own pkk)) (by (first | rfl))) ?_)
                    refine Ht.yv (y_move rfl) ?_
                    refine Ht.yv (y_move rfl) ?_
                    refine Ht.yv (y_move rfl) ?_
                    refine Ht.yv (y_move rfl) ?_
                    refine Ht.yv (y_move rfl) ?_
                    refine Ht.yv (y_and rfl rfl) ?_
                    first | (refine Ht.yv (y_field' (q := 5) (ft := 78) Try.underlying97 rfl sz78 rfl rfl) ?_) | (refine Ht.yv (y_fieldR (q := 5) (ft := 78) Try.underlying97 rfl sz78 rfl rfl) ?_)
                    first | (refine Ht.yv (y_load1 ag78 rfl (Rd.pt1 pkk (by (first | rfl)))) ?_) | (refine Ht.yv (y_load1 ag78 rfl (Rd.seg1 pkk (by (first | rfl)))) ?_) | (refine Ht.yv (y_loadR1 ag78 rfl (by (first | exact RdS.own pkk)) (by (first | rfl))) ?_)
                    first | (refine Ht.yv (y_field' (q := 6) (ft := 78) Try.underlying97 rfl sz78 rfl rfl) ?_) | (refine Ht.yv (y_fieldR (q := 6) (ft := 78) Try.underlying97 rfl sz78 rfl rfl) ?_)
                    first | (refine Ht.yv (y_load1 ag78 rfl (Rd.pt1 pkk (by (first | rfl)))) ?_) | (refine Ht.yv (y_load1 ag78 rfl (Rd.seg1 pkk (by (first | rfl)))) ?_) | (refine Ht.yv (y_loadR1 ag78 rfl (by (first | exact RdS.own pkk)) (by (first | rfl))) ?_)
                    refine Ht.yv (y_build (vs := [(0, _), (1, _), (2, _), (3, _), (4, _)]) rfl (by first | exact bd11_131 .. | kernel_rfl)) ?_
                    refine Ht.nil ?_
                    refine Hd.mapUpdate mapt49 rfl rfl rfl pkk ?_
                    refine Hd.nil ?_
                    refine Hd.slots [] trivial ?_
                    refine Hd.toK hK29 ?_
                    refine Hd.seq (fun K30 hK30 => ?_)
                    refine Hd.region ?_
                    refine Hd.yv (y_assign rfl) ?_
                    refine Hd.nil ?_
                    refine Hd.slots [(8, _)] ⟨rfl, trivial⟩ ?_
                    refine Hd.toK hK30 ?_
                    refine Hd.ret ?_
                    clear hK1 hK2 hK3 hK4 hK6 hK7 hK8 hK10 hK11 hK12 hK13 hK15 hK20 hK21 hK23 hK26 hK27 hK28 hK29 hK30
                    rw [show ctlR limit f w op fd ev = (0, updF f fd (some (modX ((findE f w fd).getD zIx) w fd ev))) by unfold ctlR; rw [if_neg h1, if_neg h2, if_neg h3, if_neg h4, if_neg ho, if_neg h6, if_neg hc7]]
                    exact Hd.ret1 rfl (if (fmap f fd).isSome then m else m + 1) rfl (Ent.sep (.pure (by split <;> omega) (.pick pkk (.eq pkk (mp_eq (by rw [fmap_upd]; unfold modX armE; rw [if_pos hc8]) rfl) enn))))
                  ·
                    try simp only [decide_eq_true_eq, decide_eq_false_iff_not, Bool.and_eq_true, Bool.or_eq_true, Bool.and_eq_false_iff, Bool.or_eq_false_iff, Bool.not_eq_true', Bool.not_eq_false', Bool.not_eq_true, Bool.not_eq_false, Int.not_lt, Int.not_le, Decidable.not_not, ne_eq] at hc8
                    refine Hd.skip ?_
                    refine Hd.toK hK27 ?_
                    refine Hd.seq (fun K31 hK31 => ?_)
                    refine Hd.tail 15 mixed (by kernel_rfl) ?_
                    simp only [List.take, List.drop]
                    refine Ht.yv (y_move rfl) ?_
                    refine Ht.yv (y_nilp rfl) ?_
                    first | (refine Ht.yv (y_field' (q := 2) (ft := 49) Try.underlying51 rfl sz49 rfl rfl) ?_) | (refine Ht.yv (y_fieldR (q := 2) (ft := 49) Try.underlying51 rfl sz49 rfl rfl) ?_)
                    first | (refine Ht.yv (y_load1 ag49 rfl (Rd.pt1 pkk (by (first | rfl)))) ?_) | (refine Ht.yv (y_load1 ag49 rfl (Rd.seg1 pkk (by (first | rfl)))) ?_) | (refine Ht.yv (y_loadR1 ag49 rfl (by (first | exact RdS.own pkk)) (by (first | rfl))) ?_)
                    refine Ht.yv (y_move rfl) ?_
                    refine Ht.yv (y_move rfl) ?_
                    refine Ht.yv (y_move rfl) ?_
                    refine Ht.yv (y_move rfl) ?_
                    refine Ht.yv (y_move rfl) ?_
                    refine Ht.yv (y_and rfl rfl) ?_
                    first | (refine Ht.yv (y_field' (q := 5) (ft := 78) Try.underlying97 rfl sz78 rfl rfl) ?_) | (refine Ht.yv (y_fieldR (q := 5) (ft := 78) Try.underlying97 rfl sz78 rfl rfl) ?_)
                    first | (refine Ht.yv (y_load1 ag78 rfl (Rd.pt1 pkk (by (first | rfl)))) ?_) | (refine Ht.yv (y_load1 ag78 rfl (Rd.seg1 pkk (by (first | rfl)))) ?_) | (refine Ht.yv (y_loadR1 ag78 rfl (by (first | exact RdS.own pkk)) (by (first | rfl))) ?_)
                    first | (refine Ht.yv (y_field' (q := 6) (ft := 78) Try.underlying97 rfl sz78 rfl rfl) ?_) | (refine Ht.yv (y_fieldR (q := 6) (ft := 78) Try.underlying97 rfl sz78 rfl rfl) ?_)
                    first | (refine Ht.yv (y_load1 ag78 rfl (Rd.pt1 pkk (by (first | rfl)))) ?_) | (refine Ht.yv (y_load1 ag78 rfl (Rd.seg1 pkk (by (first | rfl)))) ?_) | (refine Ht.yv (y_loadR1 ag78 rfl (by (first | exact RdS.own pkk)) (by (first | rfl))) ?_)
                    refine Ht.yv (y_build (vs := [(0, _), (1, _), (2, _), (3, _), (4, _)]) rfl (by first | exact bd11_131 .. | kernel_rfl)) ?_
                    refine Ht.nil ?_
                    refine Hd.mapUpdate mapt49 rfl rfl rfl pkk ?_
                    refine Hd.nil ?_
                    refine Hd.slots [] trivial ?_
                    refine Hd.toK hK31 ?_
                    refine Hd.seq (fun K32 hK32 => ?_)
                    refine Hd.region ?_
                    refine Hd.yv (y_assign rfl) ?_
                    refine Hd.nil ?_
                    refine Hd.slots [(8, _)] ⟨rfl, trivial⟩ ?_
                    refine Hd.toK hK32 ?_
                    refine Hd.ret ?_
                    clear hK1 hK2 hK3 hK4 hK6 hK7 hK8 hK10 hK11 hK12 hK13 hK15 hK20 hK21 hK23 hK26 hK27 hK28 hK31 hK32
                    rw [show ctlR limit f w op fd ev = (0, updF f fd (some (modX ((findE f w fd).getD zIx) w fd ev))) by unfold ctlR; rw [if_neg h1, if_neg h2, if_neg h3, if_neg h4, if_neg ho, if_neg h6, if_neg hc7]]
                    exact Hd.ret1 rfl (if (fmap f fd).isSome then m else m + 1) rfl (Ent.sep (.pure (by split <;> omega) (.pick pkk (.eq pkk (mp_eq (by rw [fmap_upd]; unfold modX armE; rw [if_neg hc8]) rfl) enn))))
end Ep
end Go.Proofs.Ytbfddabjbkohdaa
namespace Go.Proofs.Ytbfddabjbkohdaa
set_option linter.unusedSimpArgs false
set_option linter.unusedVariables false
set_option linter.unnecessarySimpa false
open Go.RX Fx
namespace Ep
open Wo
set_option maxRecDepth 8000
abbrev OutP (b : Nat) (l : List (Int × Int)) : SP := RX.ex fun i : Option Addr × Nat => [pt b [.slice i.1 l.length i.2] 43, own 40 2 i.1 l.length i.2 (l.flatMap encPo)]
abbrev seqD (px : Nat) : Value := .func (.func 77) #[] #[.pointer (some ⟨px, 0, none⟩)]
set_option maxHeartbeats 2000000 in
theorem appd_ct (L : List SP) (px pb wb mb : Nat) (limit : Int) (f : Int → Option IxA) (m : Nat) (hm : m ≤ 1000000) (w : WA) : Ct Try.prog 80 #[.slice none 0 0, seqD px] (EpM px pb wb mb limit f m w L) (fun q_ : Option Addr × Nat => .slice q_.1 (dueL f w).length q_.2) (fun q_ : Option Addr × Nat => own 40 2 q_.1 (dueL f w).length q_.2 ((dueL f w).flatMap encPo) :: EpM px pb wb mb limit f m w L) := by
  refine Ct.ofM (vs := [.slice none 0 0, seqD px]) Try.func80 rfl rfl [(0, .slice none 0 0), (1, seqD px)] (by repeat (first | exact trivial | refine ⟨rfl, ?_⟩)) ?_
  intro E
  show Hd E 13 _ _ _ _
  refine Hd.seq (fun K1 hK1 => ?_)
  refine Hd.region ?_
  refine Hd.box rfl rfl (fun b2 => ?_)
  refine Hd.yv (y_assign rfl) ?_
  refine Hd.nil ?_
  refine Hd.slots [(1, _), (2, _)] ⟨rfl, rfl, trivial⟩ ?_
  refine Hd.toK hK1 ?_
  refine Hd.seq (fun K2 hK2 => ?_)
  refine Hd.seq (fun K3 hK3 => ?_)
  refine Hd.region ?_
  refine Hd.yv (y_move rfl) ?_
  refine Hd.nil ?_
  refine Hd.slots [(2, _), (6, _)] ⟨rfl, rfl, trivial⟩ ?_
  refine Hd.toK hK3 ?_
  refine Hd.block ?_
  refine Hd.rangeF (enc := encPA) (S := fun ys => ys = dueL f w) (Sp := fun ys => ys <+: dueL f w)
    (fun pre => OutP b2 pre :: L) (fun _ _ => [pu False])
    rfl (by kernel_rfl) (fun _ => rfl) rfl (due_it px pb wb mb limit f m hm w) (by refine Ent.sep ?_; refine Ent.ex (none, 0) ?_; refine Ent.eq pkk (pt_eq (by rfl)) ?_; refine Ent.ownNil ?_; exact Ent.swap (L := [_, _, _, _])) ?_ ?_ ?_
  ·
    intro E l' R pre c N hR hG
    have hdl := dueL_len f w
    have hpl : pre.length + 1 ≤ 1000000 := by have h1 := hG.length_le; simp at h1; omega
    unfold Rnd
    simp only [List.cons_append, List.nil_append, pz, encPA]
    refine Hd.region ?_
    refine Hd.alloc zr40 (fun b5 => ?_)
    refine Hd.storeA (us := encPo c) sz40 rfl rfl rfl (encPo_one _) pkk (by exact rfl) ?_
    refine Hd.nil ?_
    refine Hd.slots [(2, _), (5, _)] ⟨rfl, rfl, trivial⟩ ?_
    refine Hd.thenN ?_
    refine Hd.begin hR pkk ?_
    refine Hd.block ?_
    refine Hd.exs pkk ?_
    rintro ⟨a3, c3⟩
    simp only [List.cons_append, List.nil_append]
    refine Hd.region ?_
    first | (refine Hd.yv (y_load1 ag43 rfl (Rd.pt1 pkk (by (first | rfl)))) ?_) | (refine Hd.yv (y_load1 ag43 rfl (Rd.seg1 pkk (by (first | rfl)))) ?_) | (refine Hd.yv (y_loadR1 ag43 rfl (by (first | exact RdS.own pkk)) (by (first | rfl))) ?_)
    refine Hd.yv (y_loadn (us := encPo c) ag40 rfl (Rd.pt pkk (fun j v e => by rw [Nat.zero_add]; exact e)) (by exact sz40)) ?_
    refine Hd.bslice (vs := [(0, _)]) rfl (by first | exact bs80_10 .. | kernel_rfl) (fun b10 => ?_)
    refine Hd.append Try.underlying43 ty40 rfl rfl rfl pkk (by first | exact RdS.rd (Rd.pt pkk (fun j v e => by simpa using e)) rfl | (first | exact RdS.own pkk)) (by first | (simp [Value.oneCell']; done) | assumption) (by first | (simp only [maxLen]; omega) | assumption) (by omega) (fun ad11 cap11 => ?_)
    first | (refine Hd.store1 sz43 rfl rfl rfl pkk (by first | decide | (simp; done) | (simp; omega)) ?_) | (refine Hd.storeG1 sz43 rfl rfl rfl pkk (by first | decide | (simp; done) | (simp; omega)) ?_) | (refine Hd.storeO1 sz43 rfl rfl rfl pkk (by first | omega | (simp; done) | (simp; omega)) ?_)
    try simp only [List.set_cons_zero, List.set_cons_succ]
    refine Hd.nil ?_
    refine Hd.slots [(2, _)] ⟨rfl, trivial⟩ ?_
    refine Hd.inB ?_
    clear hK1 hK2 hK3
    refine Hd.reN ?_
    simp only [List.cons_append, List.nil_append]
    exact Ent.sep (.pick pkk (.ex (ad11, cap11) (.eq pkk (pt_eq (by simp)) (.eq pkk (own_eq (by simp) (by simp)) enn))))
  ·
    intro r0 ys hys
    obtain rfl : ys = dueL f w := hys
    try simp only [List.cons_append, List.nil_append]
    refine Hd.inB ?_
    refine Hd.toK hK2 ?_
    refine Hd.seq (fun K4 hK4 => ?_)
    refine Hd.exs pkk ?_
    rintro ⟨a3, c3⟩
    simp only [List.cons_append, List.nil_append]
    refine Hd.region ?_
    first | (refine Hd.yv (y_load1 ag43 rfl (Rd.pt1 pkk (by (first | rfl)))) ?_) | (refine Hd.yv (y_load1 ag43 rfl (Rd.seg1 pkk (by (first | rfl)))) ?_) | (refine Hd.yv (y_loadR1 ag43 rfl (by (first | exact RdS.own pkk)) (by (first | rfl))) ?_)
    refine Hd.yv (y_assign rfl) ?_
    refine Hd.nil ?_
    refine Hd.slots [(4, _)] ⟨rfl, trivial⟩ ?_
    refine Hd.toK hK4 ?_
    refine Hd.ret ?_
    clear hK1 hK2 hK3 hK4
    exact Hd.retM (fun a fr => Lv.mark pkk (Lv.end1 fr rfl (a3, c3) rfl (Ent.sep enn)))
  ·
    rintro r0_0 (_ | id0) pre0 hG0
    ·
      exact Hd.absurd (by first | exact id | simp)
    ·
      exact Hd.absurd (by first | exact id | simp)
set_option maxHeartbeats 2000000 in
theorem colld_ct (L : List SP) (px pb wb mb : Nat) (limit : Int) (f : Int → Option IxA) (m : Nat) (hm : m ≤ 1000000) (w : WA) : Ct Try.prog 49 #[seqD px] (EpM px pb wb mb limit f m w L) (fun q_ : Option Addr × Nat => .slice q_.1 (dueL f w).length q_.2) (fun q_ : Option Addr × Nat => own 40 2 q_.1 (dueL f w).length q_.2 ((dueL f w).flatMap encPo) :: EpM px pb wb mb limit f m w L) := by
  refine Ct.of (vs := [seqD px]) Try.func49 rfl rfl [(0, seqD px)] (by repeat (first | exact trivial | refine ⟨rfl, ?_⟩)) ?_
  intro E
  show Hd E 5 _ _ _ _
  refine Hd.seq (fun K1 hK1 => ?_)
  refine Hd.region ?_
  refine Hd.yv (y_assign rfl) ?_
  refine Hd.nil ?_
  refine Hd.slots [(0, _)] ⟨rfl, trivial⟩ ?_
  refine Hd.toK hK1 ?_
  refine Hd.seq (fun K2 hK2 => ?_)
  refine Hd.region ?_
  refine Hd.yv (y_move rfl) ?_
  refine Hd.callE rfl fk80 (appd_ct L px pb wb mb limit f m hm w) (Ent.sep enn) ?_
  rintro ⟨a2, c2⟩
  dsimp only
  refine Hd.yv (y_assign rfl) ?_
  refine Hd.nil ?_
  refine Hd.slots [(2, _)] ⟨rfl, trivial⟩ ?_
  refine Hd.toK hK2 ?_
  refine Hd.ret ?_
  clear hK1 hK2
  exact Hd.ret1 rfl (a2, c2) rfl (Ent.sep enn)
def offX (y : IxA) (r : RdyA) (ev : Int) : IxA := { y with armed := bits .andNot .i64 (rsE y r) ev, reads := r.r, writes := r.w }
def offF (w : WA) (f : Int → Option IxA) : List (Int × Int) → (Int → Option IxA)
  | [] => f
  | x :: t => offF w (updF f x.1 (some (offX ((f x.1).getD zIx) (readyR w x.1) x.2))) t
theorem offF_app (w : WA) (x : Int × Int) : ∀ (l : List (Int × Int)) (f : Int → Option IxA), offF w f (l ++ [x]) = updF (offF w f l) x.1 (some (offX ((offF w f l x.1).getD zIx) (readyR w x.1) x.2))
  | [], _ => rfl
  | y :: t, f => offF_app w x t _
def polL (f : Int → Option IxA) (w : WA) (most : Int) (ord : List Int) : List (Int × Int) := (Sh.shufTo ord (dueL f w) (dueL f w).length).take most.toNat
theorem po2_eq : (Sh.encPo2 : Int × Int → List Value) = encPo := rfl
theorem polL_len (f : Int → Option IxA) (w : WA) (most : Int) (ord : List Int) : (polL f w most ord).length = min most.toNat (dueL f w).length := by unfold polL; rw [List.length_take, Sh.shuf_len]
set_option maxHeartbeats 2000000 in
theorem pollbad_ct (L : List SP) (pb wb mb : Nat) (limit : Int) (most : Int) (h1 : most < 1) (v : Value) : Ct Try.prog 16 #[.pointer (some ⟨pb, 0, none⟩), .int .i64 most, v] (EpH pb wb mb limit :: L) (fun _ : Unit => .tuple #[.slice none 0 0, .int .i64 2]) (fun _ : Unit => EpH pb wb mb limit :: L) := by
  refine Ct.of (vs := [.pointer (some ⟨pb, 0, none⟩), .int .i64 most, v]) Try.func16 rfl rfl [(0, .pointer (some ⟨pb, 0, none⟩)), (1, .int .i64 most), (2, v)] (by repeat (first | exact trivial | refine ⟨rfl, ?_⟩)) ?_
  intro E
  show Hd E 72 _ _ _ _
  refine Hd.seq (fun K1 hK1 => ?_)
  refine Hd.region ?_
  refine Hd.yv (y_assign rfl) ?_
  refine Hd.yv (y_assign rfl) ?_
  refine Hd.nil ?_
  refine Hd.slots [(0, _), (1, _), (2, _)] ⟨rfl, rfl, rfl, trivial⟩ ?_
  refine Hd.toK hK1 ?_
  refine Hd.seq (fun K2 hK2 => ?_)
  refine Hd.block ?_
  refine Hd.seq (fun K3 hK3 => ?_)
  refine Hd.region ?_
  refine Hd.yv (y_move rfl) ?_
  refine Hd.callE rfl fk36 (enone_ct _ pb wb mb limit) (Ent.sep enn) ?_
  intro _
  refine Hd.yv (y_assign rfl) ?_
  refine Hd.nil ?_
  refine Hd.slots [(0, _), (1, _), (2, _), (13, _)] ⟨rfl, rfl, rfl, rfl, trivial⟩ ?_
  refine Hd.toK hK3 ?_
  refine Hd.condF rfl ?_
  refine Hd.seq (fun K4 hK4 => ?_)
  refine Hd.region ?_
  refine Hd.yv (y_move rfl) ?_
  refine Hd.yv (y_lss rfl rfl) ?_
  refine Hd.yv (y_assign rfl) ?_
  refine Hd.nil ?_
  refine Hd.slots [(0, _), (1, _), (2, _), (16, _)] ⟨rfl, rfl, rfl, rfl, trivial⟩ ?_
  refine Hd.toK hK4 ?_
  refine Hd.cond rfl (fun hc1 => ?_) (fun hc1 => ?_)
  ·
    try simp only [decide_eq_true_eq, decide_eq_false_iff_not, Bool.and_eq_true, Bool.or_eq_true, Bool.and_eq_false_iff, Bool.or_eq_false_iff, Bool.not_eq_true', Bool.not_eq_false', Bool.not_eq_true, Bool.not_eq_false, Int.not_lt, Int.not_le, Decidable.not_not, ne_eq] at hc1
    refine Hd.seq (fun K5 hK5 => ?_)
    refine Hd.region ?_
    refine Hd.yv (y_assign rfl) ?_
    refine Hd.yv (y_assign rfl) ?_
    refine Hd.nil ?_
    refine Hd.slots [(6, _), (7, _)] ⟨rfl, rfl, trivial⟩ ?_
    refine Hd.toK hK5 ?_
    refine Hd.ret ?_
    refine Hd.inBret ?_
    refine Hd.thenRet ?_
    clear hK1 hK2 hK3 hK4 hK5
    exact Hd.ret2 rfl () rfl rfl rfl (Ent.sep enn)
  ·
    try simp only [decide_eq_true_eq, decide_eq_false_iff_not, Bool.and_eq_true, Bool.or_eq_true, Bool.and_eq_false_iff, Bool.or_eq_false_iff, Bool.not_eq_true', Bool.not_eq_false', Bool.not_eq_true, Bool.not_eq_false, Int.not_lt, Int.not_le, Decidable.not_not, ne_eq] at hc1
    omega
set_option maxHeartbeats 2000000 in
theorem poll_ct (L : List SP) (pb wb mb : Nat) (limit : Int) (f : Int → Option IxA) (m : Nat) (hm : m ≤ 1000000) (w : WA) (most : Int) (h1 : 1 ≤ most) (ao : Option Addr) (co : Nat) (ord : List Int) (ho : RdS L 1 ao ord.length (vi ord)) (hol : ord.length ≤ 1000000) : Ct Try.prog 16 #[.pointer (some ⟨pb, 0, none⟩), .int .i64 most, .slice ao ord.length co] (EpB pb wb mb limit f m w L) (fun q_ : Option Addr × Nat × Nat => .tuple #[.slice q_.1 (polL f w most ord).length q_.2.1, .int .i64 0]) (fun q_ : Option Addr × Nat × Nat => pu (q_.2.2 ≤ m + (polL f w most ord).length) :: own 40 2 q_.1 (polL f w most ord).length q_.2.1 ((polL f w most ord).flatMap encPo) :: EpB pb wb mb limit (offF w f (polL f w most ord)) q_.2.2 w L) := by
  refine Ct.of (vs := [.pointer (some ⟨pb, 0, none⟩), .int .i64 most, .slice ao ord.length co]) Try.func16 rfl rfl [(0, .pointer (some ⟨pb, 0, none⟩)), (1, .int .i64 most), (2, .slice ao ord.length co)] (by repeat (first | exact trivial | refine ⟨rfl, ?_⟩)) ?_
  intro E
  show Hd E 72 _ _ _ _
  refine Hd.wok pkk (fun hw => ?_)
  have hdl := dueL_len f w
  refine Hd.seq (fun K1 hK1 => ?_)
  refine Hd.region ?_
  refine Hd.yv (y_assign rfl) ?_
  refine Hd.yv (y_assign rfl) ?_
  refine Hd.nil ?_
  refine Hd.slots [(0, _), (1, _), (2, _)] ⟨rfl, rfl, rfl, trivial⟩ ?_
  refine Hd.toK hK1 ?_
  refine Hd.seq (fun K2 hK2 => ?_)
  refine Hd.block ?_
  refine Hd.seq (fun K3 hK3 => ?_)
  refine Hd.region ?_
  refine Hd.yv (y_move rfl) ?_
  refine Hd.callE rfl fk36 (enone_ct _ pb wb mb limit) (Ent.sep enn) ?_
  intro _
  refine Hd.yv (y_assign rfl) ?_
  refine Hd.nil ?_
  refine Hd.slots [(0, _), (1, _), (2, _), (13, _)] ⟨rfl, rfl, rfl, rfl, trivial⟩ ?_
  refine Hd.toK hK3 ?_
  refine Hd.condF rfl ?_
  refine Hd.seq (fun K4 hK4 => ?_)
  refine Hd.region ?_
  refine Hd.yv (y_move rfl) ?_
  refine Hd.yv (y_lss rfl rfl) ?_
  refine Hd.yv (y_assign rfl) ?_
  refine Hd.nil ?_
  refine Hd.slots [(0, _), (1, _), (2, _), (16, _)] ⟨rfl, rfl, rfl, rfl, trivial⟩ ?_
  refine Hd.toK hK4 ?_
  refine Hd.cond rfl (fun hc1 => ?_) (fun hc1 => ?_)
  ·
    try simp only [decide_eq_true_eq, decide_eq_false_iff_not, Bool.and_eq_true, Bool.or_eq_true, Bool.and_eq_false_iff, Bool.or_eq_false_iff, Bool.not_eq_true', Bool.not_eq_false', Bool.not_eq_true, Bool.not_eq_false, Int.not_lt, Int.not_le, Decidable.not_not, ne_eq] at hc1
    omega
  ·
    try simp only [decide_eq_true_eq, decide_eq_false_iff_not, Bool.and_eq_true, Bool.or_eq_true, Bool.and_eq_false_iff, Bool.or_eq_false_iff, Bool.not_eq_true', Bool.not_eq_false', Bool.not_eq_true, Bool.not_eq_false, Int.not_lt, Int.not_le, Decidable.not_not, ne_eq] at hc1
    refine Hd.skip ?_
    refine Hd.inB ?_
    refine Hd.toK hK2 ?_
    refine Hd.seq (fun K5 hK5 => ?_)
    refine Hd.region ?_
    refine Hd.yv (y_move rfl) ?_
    refine Hd.callE rfl fk45 (due_ct _ pb) (Ent.sep enn) ?_
    intro px
    refine Hd.callE rfl fk49 (colld_ct L px pb wb mb limit f m hm w) (Ent.sep enn) ?_
    rintro ⟨a1, c1⟩
    dsimp only
    refine Hd.yv (y_move rfl) ?_
    refine Hd.callE rfl fk48 (Sh.shuffleP_ct _ a1 ao c1 co (dueL f w) ord ?hD ?hO (by omega) hol) (Ent.sep enn) ?_
    case hD => exact RdS.own pkk
    case hO => exact RdS.mono ho (Ent.sep enn)
    rintro ⟨a2, c2⟩
    dsimp only
    obtain ⟨s, hs⟩ : ∃ s, s = Sh.shufTo ord (dueL f w) (dueL f w).length := ⟨_, rfl⟩
    have hsl : s.length = (dueL f w).length := by rw [hs, Sh.shuf_len]
    obtain ⟨kk, hkk⟩ : ∃ k, k = min most.toNat (dueL f w).length := ⟨_, rfl⟩
    have hpo : polL f w most ord = s.take kk := by
      unfold polL
      rw [← hs, hkk, ← hsl]
      rcases Nat.le_total most.toNat s.length with h | h
      · rw [Nat.min_eq_left h]
      · rw [Nat.min_eq_right h, List.take_length, List.take_of_length_le h]
    have hpl : (polL f w most ord).length = kk := by rw [polL_len, hkk]
    rw [hpo] at hpl ⊢
    rw [hpl, ← hs, po2_eq]
    refine Hd.ownCap (e := 40) (ad := a2) (m := (dueL f w).length) (cap := c2) pkk (fun hcap => ?_)
    refine Hd.yv (y_assign rfl) ?_
    refine Hd.nil ?_
    refine Hd.slots [(0, _), (1, _), (8, _)] ⟨rfl, rfl, rfl, trivial⟩ ?_
    refine Hd.toK hK5 ?_
    refine Hd.seq (fun K6 hK6 => ?_)
    refine Hd.region ?_
    refine Hd.yv (y_move rfl) ?_
    refine Hd.yv (y_move rfl) ?_
    refine Hd.yv (y_move rfl) ?_
    refine Hd.yv (y_len Try.underlying43 rfl) ?_
    refine Hd.yv (y_to (v' := .int .i64 (kk : Int)) (y_min rfl rfl) (by (congr 1; omega))) ?_
    first | (refine Hd.yv (y_slo_xoxN Try.underlying43 sz40 rfl rfl (by first | omega | (simp; done) | decide)) ?_) | (refine Hd.yv (y_slo_xox Try.underlying43 sz40 rfl rfl (by first | omega | (simp; done) | decide) (by first | omega | (simp; done) | decide)) ?_)
    refine Hd.yv (y_assign rfl) ?_
    refine Hd.nil ?_
    refine Hd.slots [(0, _), (8, _)] ⟨rfl, rfl, trivial⟩ ?_
    refine Hd.toK hK6 ?_
    refine Hd.seq (fun K7 hK7 => ?_)
    refine Hd.seq (fun K8 hK8 => ?_)
    refine Hd.region ?_
    refine Hd.yv (y_move rfl) ?_
    refine Hd.yv (y_len Try.underlying43 rfl) ?_
    refine Hd.yv (y_move rfl) ?_
    refine Hd.nil ?_
    refine Hd.slots [(0, _), (8, _), (30, _), (31, _), (32, _)] ⟨rfl, rfl, rfl, rfl, rfl, trivial⟩ ?_
    refine Hd.toK hK8 ?_
    refine Hd.block ?_
    refine Hd.loopK (ι := Nat × Nat) [(0, _), (8, _), (30, _), (31, _)] (fun q_ => [(32, .int .i64 (q_.1 : Int))]) (fun q_ => pu (q_.1 ≤ kk ∧ q_.2 ≤ m + q_.1) :: own 40 2 a2 (dueL f w).length c2 (s.flatMap encPo) :: EpB pb wb mb limit (offF w f (s.take q_.1)) q_.2 w L) (fun q_ => kk - q_.1) (0, m) (by repeat (first | exact trivial | refine ⟨rfl, ?_⟩)) (by repeat (first | exact trivial | refine ⟨rfl, ?_⟩)) (Ent.sep (.pure ⟨Nat.zero_le _, Nat.le_refl _⟩ enn)) ?_
    rintro ⟨i, m'⟩
    try dsimp only
    refine Hd.pure (fun hp0 => ?_)
    try dsimp only at hp0
    refine Hd.seq (fun K9 hK9 => ?_)
    refine Hd.region ?_
    refine Hd.yv (y_lss rfl rfl) ?_
    refine Hd.nil ?_
    refine Hd.slots [(0, _), (8, _), (30, _), (31, _), (32, _), (33, _)] ⟨rfl, rfl, rfl, rfl, rfl, rfl, trivial⟩ ?_
    refine Hd.toK hK9 ?_
    refine Hd.seq (fun K10 hK10 => ?_)
    refine Hd.cond rfl (fun hc2 => ?_) (fun hc2 => ?_)
    ·
      try simp only [decide_eq_true_eq, decide_eq_false_iff_not, Bool.and_eq_true, Bool.or_eq_true, Bool.and_eq_false_iff, Bool.or_eq_false_iff, Bool.not_eq_true', Bool.not_eq_false', Bool.not_eq_true, Bool.not_eq_false, Int.not_lt, Int.not_le, Decidable.not_not, ne_eq] at hc2
      have hi : i < s.length := by omega
      have hgi : s[i]? = some s[i] := List.getElem?_eq_getElem hi
      have hsc : s.take (i + 1) = s.take i ++ [s[i]] := by rw [List.take_add_one, hgi]; rfl
      refine Hd.skip ?_
      refine Hd.toK hK10 ?_
      refine Hd.seq (fun K11 hK11 => ?_)
      refine Hd.block ?_
      refine Hd.seq (fun K12 hK12 => ?_)
      refine Hd.region ?_
      first | (refine Hd.yv (y_idxS Try.underlying43 sz40 rfl rfl (by first | omega | decide)) ?_) | (refine Hd.yv (y_idxR Try.underlying43 sz40 rfl rfl (by first | omega | decide) (by (first | exact RdS.own pkk | exact RdS.head (RdS.own (ad := a2) (us := s.flatMap encPo) pkk) (by omega)))) ?_)
      refine Hd.yv (y_loadRn (vs := encPo s[i]) ag40 rfl (RdS.own (ad := a2) (us := s.flatMap encPo) pkk) (flat_cells encPo 2 (fun _ => rfl) hgi) (by exact sz40) (by simp)) ?_
      refine Hd.alloc zr40 (fun b10 => ?_)
      refine Hd.storeA (us := encPo s[i]) sz40 rfl rfl rfl (encPo_one _) pkk (by exact rfl) ?_
      refine Hd.nil ?_
      refine Hd.slots [(0, _), (8, _), (10, _), (30, _), (31, _), (32, _)] ⟨rfl, rfl, rfl, rfl, rfl, rfl, trivial⟩ ?_
      refine Hd.toK hK12 ?_
      refine Hd.cutK (ι := Nat) [(0, _), (8, _), (10, _), (30, _), (31, _), (32, _)] (fun b11 => [(11, .pointer (some ⟨b11, 0, none⟩))]) (fun b11 => pt b11 (encR (readyR w s[i].1)) 97 :: pt b10 (encPo s[i]) 40 :: own 40 2 a2 (dueL f w).length c2 (s.flatMap encPo) :: EpB pb wb mb limit (offF w f (s.take i)) m' w L) ?_ ?_ ⟨rfl, rfl, rfl, rfl, rfl, rfl, trivial⟩
      ·
        refine Hd.drawsH ([EpH pb wb mb limit, pt b10 (encPo s[i]) 40]) (fun j => !([8].contains j)) mixed ?_
        simp only [List.length, Nat.zero_add, Nat.reduceAdd]
        refine Hd.takeH 0 rfl (by kernel_rfl) (by kernel_rfl) (by kernel_rfl) (by kernel_rfl) (y_move rfl) (fun _ _ => rfl) (Ent.sep enn) ?_
        refine Hd.takeH 1 rfl (by kernel_rfl) (by kernel_rfl) (by kernel_rfl) (by kernel_rfl) (y_nilp rfl) (fun _ _ => rfl) (Ent.sep enn) ?_
        first | (refine Hd.takeH 2 rfl (by kernel_rfl) (by kernel_rfl) (by kernel_rfl) (by kernel_rfl) (y_field' (q := 0) (ft := 27) Try.underlying51 rfl sz27 rfl rfl) (fun _ _ => rfl) (Ent.sep enn) ?_) | (refine Hd.takeH 2 rfl (by kernel_rfl) (by kernel_rfl) (by kernel_rfl) (by kernel_rfl) (y_fieldR (q := 0) (ft := 27) Try.underlying51 rfl sz27 rfl rfl) (fun _ _ => rfl) (Ent.sep enn) ?_)
        first | (refine Hd.takeH 3 rfl (by kernel_rfl) (by kernel_rfl) (by kernel_rfl) (by kernel_rfl) (y_load1 ag27 rfl (Rd.pt1 pkk (by (first | rfl)))) (fun _ _ => rfl) (Ent.sep enn) ?_) | (refine Hd.takeH 3 rfl (by kernel_rfl) (by kernel_rfl) (by kernel_rfl) (by kernel_rfl) (y_load1 ag27 rfl (Rd.seg1 pkk (by (first | rfl)))) (fun _ _ => rfl) (Ent.sep enn) ?_) | (refine Hd.takeH 3 rfl (by kernel_rfl) (by kernel_rfl) (by kernel_rfl) (by kernel_rfl) (y_loadR1 ag27 rfl (by (first | exact RdS.own pkk | exact RdS.head (RdS.own (ad := a2) (us := s.flatMap encPo) pkk) (by omega))) (by (first | rfl))) (fun _ _ => rfl) (Ent.sep enn) ?_)
        first | (refine Hd.takeH 4 rfl (by kernel_rfl) (by kernel_rfl) (by kernel_rfl) (by kernel_rfl) (y_field' (q := 0) (ft := 3) Try.underlying40 rfl sz3 rfl rfl) (fun _ _ => rfl) (Ent.sep enn) ?_) | (refine Hd.takeH 4 rfl (by kernel_rfl) (by kernel_rfl) (by kernel_rfl) (by kernel_rfl) (y_fieldR (q := 0) (ft := 3) Try.underlying40 rfl sz3 rfl rfl) (fun _ _ => rfl) (Ent.sep enn) ?_)
        first | (refine Hd.takeH 5 rfl (by kernel_rfl) (by kernel_rfl) (by kernel_rfl) (by kernel_rfl) (y_load1 ag3 rfl (Rd.pt1 pkk (by (first | rfl)))) (fun _ _ => rfl) (Ent.sep enn) ?_) | (refine Hd.takeH 5 rfl (by kernel_rfl) (by kernel_rfl) (by kernel_rfl) (by kernel_rfl) (y_load1 ag3 rfl (Rd.seg1 pkk (by (first | rfl)))) (fun _ _ => rfl) (Ent.sep enn) ?_) | (refine Hd.takeH 5 rfl (by kernel_rfl) (by kernel_rfl) (by kernel_rfl) (by kernel_rfl) (y_loadR1 ag3 rfl (by (first | exact RdS.own pkk | exact RdS.head (RdS.own (ad := a2) (us := s.flatMap encPo) pkk) (by omega))) (by (first | rfl))) (fun _ _ => rfl) (Ent.sep enn) ?_)
        refine Hd.eitherH 6 7 rfl rfl (by kernel_rfl) ?_ ?_
        ·
          refine Hd.callE rfl fk39 (wready_ct _ wb w s[i].1) (Ent.sep enn) ?_
          intro _
          refine Hd.nil ?_
          refine Hd.thenN ?_
          refine Hd.heldK (J := (fun j => !([8].contains j))) (i := 6) (Ent.sep enn) ?_
          refine Hd.onlyH 7 rfl (by kernel_rfl) ?_
          refine Hd.alloc zr97 (fun b11 => ?_)
          refine Hd.nil ?_
          refine Hd.thenN ?_
          refine Hd.heldK (J := (fun j => !([8].contains j))) (i := 7) (Ent.sep enn) ?_
          refine Hd.onlyH 8 rfl (by kernel_rfl) ?_
          refine Hd.storeA (us := encR (readyR w s[i].1)) sz97 rfl rfl rfl (by simp [Value.oneCell']) pkk (by exact rfl) ?_
          refine Hd.nil ?_
          refine Hd.thenN ?_
          refine Hd.heldN (J := (fun j => !([8].contains j))) (i := 8) rfl ?_
          refine Hd.endH (by kernel_rfl) ?_
          refine Hd.slots [(0, _), (8, _), (10, _), (11, _), (30, _), (31, _), (32, _)] ⟨rfl, rfl, rfl, rfl, rfl, rfl, rfl, trivial⟩ ?_
          clear hK1 hK2 hK3 hK4 hK5 hK6 hK7 hK8 hK9 hK10 hK11 hK12
          refine Hd.thenN ?_
          exact Hd.meet b11 (by repeat (first | exact trivial | refine ⟨rfl, ?_⟩)) (Ent.sep enn)
        ·
          refine Hd.alloc zr97 (fun b11 => ?_)
          refine Hd.nil ?_
          refine Hd.thenN ?_
          refine Hd.heldK (J := (fun j => !([8].contains j))) (i := 7) (Ent.sep enn) ?_
          refine Hd.onlyH 6 rfl (by kernel_rfl) ?_
          refine Hd.callE rfl fk39 (wready_ct _ wb w s[i].1) (Ent.sep enn) ?_
          intro _
          refine Hd.nil ?_
          refine Hd.thenN ?_
          refine Hd.heldK (J := (fun j => !([8].contains j))) (i := 6) (Ent.sep enn) ?_
          refine Hd.onlyH 8 rfl (by kernel_rfl) ?_
          refine Hd.storeA (us := encR (readyR w s[i].1)) sz97 rfl rfl rfl (by simp [Value.oneCell']) pkk (by exact rfl) ?_
          refine Hd.nil ?_
          refine Hd.thenN ?_
          refine Hd.heldN (J := (fun j => !([8].contains j))) (i := 8) rfl ?_
          refine Hd.endH (by kernel_rfl) ?_
          refine Hd.slots [(0, _), (8, _), (10, _), (11, _), (30, _), (31, _), (32, _)] ⟨rfl, rfl, rfl, rfl, rfl, rfl, rfl, trivial⟩ ?_
          clear hK1 hK2 hK3 hK4 hK5 hK6 hK7 hK8 hK9 hK10 hK11 hK12
          refine Hd.thenN ?_
          exact Hd.meet b11 (by repeat (first | exact trivial | refine ⟨rfl, ?_⟩)) (Ent.sep enn)
      ·
        intro b11
        obtain ⟨y, hy⟩ : ∃ y, y = (offF w f (s.take i) s[i].1).getD zIx := ⟨_, rfl⟩
        refine Hd.seq (fun K13 hK13 => ?_)
        refine Hd.drawsH ([EpH pb wb mb limit, pt b10 (encPo s[i]) 40, mp mb .i64 (fmap (offF w f (s.take i))) m']) (fun j => !([8].contains j)) mixed ?_
        simp only [List.length, Nat.zero_add, Nat.reduceAdd]
        refine Hd.takeH 0 rfl (by kernel_rfl) (by kernel_rfl) (by kernel_rfl) (by kernel_rfl) (y_move rfl) (fun _ _ => rfl) (Ent.sep enn) ?_
        refine Hd.takeH 1 rfl (by kernel_rfl) (by kernel_rfl) (by kernel_rfl) (by kernel_rfl) (y_nilp rfl) (fun _ _ => rfl) (Ent.sep enn) ?_
        first | (refine Hd.takeH 2 rfl (by kernel_rfl) (by kernel_rfl) (by kernel_rfl) (by kernel_rfl) (y_field' (q := 2) (ft := 49) Try.underlying51 rfl sz49 rfl rfl) (fun _ _ => rfl) (Ent.sep enn) ?_) | (refine Hd.takeH 2 rfl (by kernel_rfl) (by kernel_rfl) (by kernel_rfl) (by kernel_rfl) (y_fieldR (q := 2) (ft := 49) Try.underlying51 rfl sz49 rfl rfl) (fun _ _ => rfl) (Ent.sep enn) ?_)
        first | (refine Hd.takeH 3 rfl (by kernel_rfl) (by kernel_rfl) (by kernel_rfl) (by kernel_rfl) (y_load1 ag49 rfl (Rd.pt1 pkk (by (first | rfl)))) (fun _ _ => rfl) (Ent.sep enn) ?_) | (refine Hd.takeH 3 rfl (by kernel_rfl) (by kernel_rfl) (by kernel_rfl) (by kernel_rfl) (y_load1 ag49 rfl (Rd.seg1 pkk (by (first | rfl)))) (fun _ _ => rfl) (Ent.sep enn) ?_) | (refine Hd.takeH 3 rfl (by kernel_rfl) (by kernel_rfl) (by kernel_rfl) (by kernel_rfl) (y_loadR1 ag49 rfl (by (first | exact RdS.own pkk | exact RdS.head (RdS.own (ad := a2) (us := s.flatMap encPo) pkk) (by omega))) (by (first | rfl))) (fun _ _ => rfl) (Ent.sep enn) ?_)
        first | (refine Hd.takeH 4 rfl (by kernel_rfl) (by kernel_rfl) (by kernel_rfl) (by kernel_rfl) (y_field' (q := 0) (ft := 3) Try.underlying40 rfl sz3 rfl rfl) (fun _ _ => rfl) (Ent.sep enn) ?_) | (refine Hd.takeH 4 rfl (by kernel_rfl) (by kernel_rfl) (by kernel_rfl) (by kernel_rfl) (y_fieldR (q := 0) (ft := 3) Try.underlying40 rfl sz3 rfl rfl) (fun _ _ => rfl) (Ent.sep enn) ?_)
        first | (refine Hd.takeH 5 rfl (by kernel_rfl) (by kernel_rfl) (by kernel_rfl) (by kernel_rfl) (y_load1 ag3 rfl (Rd.pt1 pkk (by (first | rfl)))) (fun _ _ => rfl) (Ent.sep enn) ?_) | (refine Hd.takeH 5 rfl (by kernel_rfl) (by kernel_rfl) (by kernel_rfl) (by kernel_rfl) (y_load1 ag3 rfl (Rd.seg1 pkk (by (first | rfl)))) (fun _ _ => rfl) (Ent.sep enn) ?_) | (refine Hd.takeH 5 rfl (by kernel_rfl) (by kernel_rfl) (by kernel_rfl) (by kernel_rfl) (y_loadR1 ag3 rfl (by (first | exact RdS.own pkk | exact RdS.head (RdS.own (ad := a2) (us := s.flatMap encPo) pkk) (by omega))) (by (first | rfl))) (fun _ _ => rfl) (Ent.sep enn) ?_)
        refine Hd.takeH 6 rfl (by kernel_rfl) (by kernel_rfl) (by kernel_rfl) (by kernel_rfl) (y_to (v' := .agg (encIx y).toArray) (y_lookup mapt49 rfl rfl pkk) (by (rw [hy]; exact fmap_get _ s[i].1))) (fun _ _ => rfl) (Ent.sep enn) ?_
        refine Hd.onlyH 7 rfl (by kernel_rfl) ?_
        refine Hd.alloc zr93 (fun b12 => ?_)
        refine Hd.nil ?_
        refine Hd.thenN ?_
        refine Hd.heldK (J := (fun j => !([8].contains j))) (i := 7) (Ent.sep enn) ?_
        refine Hd.onlyH 8 rfl (by kernel_rfl) ?_
        refine Hd.storeA (us := encIx y) sz93 rfl rfl rfl (by simp [Value.oneCell']) pkk (by exact rfl) ?_
        refine Hd.nil ?_
        refine Hd.thenN ?_
        refine Hd.heldN (J := (fun j => !([8].contains j))) (i := 8) rfl ?_
        refine Hd.endH (by kernel_rfl) ?_
        refine Hd.slots [(0, _), (8, _), (10, _), (11, _), (12, _), (30, _), (31, _), (32, _)] ⟨rfl, rfl, rfl, rfl, rfl, rfl, rfl, rfl, trivial⟩ ?_
        refine Hd.toK hK13 ?_
        refine Hd.seq (fun K14 hK14 => ?_)
        refine Hd.drawsH ([pt b10 (encPo s[i]) 40, pt b11 (encR (readyR w s[i].1)) 97]) (fun j => !(([1000] : List Nat).contains j)) mixed ?_
        simp only [List.length, Nat.zero_add, Nat.reduceAdd]
        first | (refine Hd.takeH 1 rfl (by kernel_rfl) (by kernel_rfl) (by kernel_rfl) (by kernel_rfl) (y_loadn (us := [_, _, _, _, _, _, _]) ag97 rfl (Rd.pt pkk (by (first | (intro j v e; rcases j with _|_|_|_|_|_|_|_|_|_|_|_|j <;> first | exact e | exact absurd e (by simp))))) (by exact sz97)) (fun _ _ => rfl) (Ent.sep enn) ?_) | (refine Hd.takeH 1 rfl (by kernel_rfl) (by kernel_rfl) (by kernel_rfl) (by kernel_rfl) (y_loadn (us := [_, _, _, _, _, _, _]) ag97 rfl (Rd.seg pkk (by (first | (intro j v e; rcases j with _|_|_|_|_|_|_|_|_|_|_|_|j <;> first | exact e | exact absurd e (by simp))))) (by exact sz97)) (fun _ _ => rfl) (Ent.sep enn) ?_) | (refine Hd.takeH 1 rfl (by kernel_rfl) (by kernel_rfl) (by kernel_rfl) (by kernel_rfl) (y_loadRn ag97 rfl (by (first | exact RdS.own pkk | exact RdS.head (RdS.own (ad := a2) (us := s.flatMap encPo) pkk) (by omega))) (by (first | (intro j v e; rcases j with _|_|_|_|_|_|_|_|_|_|_|_|j <;> first | exact e | exact absurd e (by simp)))) (by exact sz97) (by simp)) (fun _ _ => rfl) (Ent.sep enn) ?_)
        first | (refine Hd.takeH 3 rfl (by kernel_rfl) (by kernel_rfl) (by kernel_rfl) (by kernel_rfl) (y_field' (q := 1) (ft := 3) Try.underlying40 rfl sz3 rfl rfl) (fun _ _ => rfl) (Ent.sep enn) ?_) | (refine Hd.takeH 3 rfl (by kernel_rfl) (by kernel_rfl) (by kernel_rfl) (by kernel_rfl) (y_fieldR (q := 1) (ft := 3) Try.underlying40 rfl sz3 rfl rfl) (fun _ _ => rfl) (Ent.sep enn) ?_)
        first | (refine Hd.takeH 4 rfl (by kernel_rfl) (by kernel_rfl) (by kernel_rfl) (by kernel_rfl) (y_load1 ag3 rfl (Rd.pt1 pkk (by (first | rfl)))) (fun _ _ => rfl) (Ent.sep enn) ?_) | (refine Hd.takeH 4 rfl (by kernel_rfl) (by kernel_rfl) (by kernel_rfl) (by kernel_rfl) (y_load1 ag3 rfl (Rd.seg1 pkk (by (first | rfl)))) (fun _ _ => rfl) (Ent.sep enn) ?_) | (refine Hd.takeH 4 rfl (by kernel_rfl) (by kernel_rfl) (by kernel_rfl) (by kernel_rfl) (y_loadR1 ag3 rfl (by (first | exact RdS.own pkk | exact RdS.head (RdS.own (ad := a2) (us := s.flatMap encPo) pkk) (by omega))) (by (first | rfl))) (fun _ _ => rfl) (Ent.sep enn) ?_)
        first | (refine Hd.takeH 6 rfl (by kernel_rfl) (by kernel_rfl) (by kernel_rfl) (by kernel_rfl) (y_field' (q := 5) (ft := 78) Try.underlying97 rfl sz78 rfl rfl) (fun _ _ => rfl) (Ent.sep enn) ?_) | (refine Hd.takeH 6 rfl (by kernel_rfl) (by kernel_rfl) (by kernel_rfl) (by kernel_rfl) (y_fieldR (q := 5) (ft := 78) Try.underlying97 rfl sz78 rfl rfl) (fun _ _ => rfl) (Ent.sep enn) ?_)
        first | (refine Hd.takeH 7 rfl (by kernel_rfl) (by kernel_rfl) (by kernel_rfl) (by kernel_rfl) (y_load1 ag78 rfl (Rd.pt1 pkk (by (first | rfl)))) (fun _ _ => rfl) (Ent.sep enn) ?_) | (refine Hd.takeH 7 rfl (by kernel_rfl) (by kernel_rfl) (by kernel_rfl) (by kernel_rfl) (y_load1 ag78 rfl (Rd.seg1 pkk (by (first | rfl)))) (fun _ _ => rfl) (Ent.sep enn) ?_) | (refine Hd.takeH 7 rfl (by kernel_rfl) (by kernel_rfl) (by kernel_rfl) (by kernel_rfl) (y_loadR1 ag78 rfl (by (first | exact RdS.own pkk | exact RdS.head (RdS.own (ad := a2) (us := s.flatMap encPo) pkk) (by omega))) (by (first | rfl))) (fun _ _ => rfl) (Ent.sep enn) ?_)
        first | (refine Hd.takeH 8 rfl (by kernel_rfl) (by kernel_rfl) (by kernel_rfl) (by kernel_rfl) (y_field' (q := 6) (ft := 78) Try.underlying97 rfl sz78 rfl rfl) (fun _ _ => rfl) (Ent.sep enn) ?_) | (refine Hd.takeH 8 rfl (by kernel_rfl) (by kernel_rfl) (by kernel_rfl) (by kernel_rfl) (y_fieldR (q := 6) (ft := 78) Try.underlying97 rfl sz78 rfl rfl) (fun _ _ => rfl) (Ent.sep enn) ?_)
        first | (refine Hd.takeH 9 rfl (by kernel_rfl) (by kernel_rfl) (by kernel_rfl) (by kernel_rfl) (y_load1 ag78 rfl (Rd.pt1 pkk (by (first | rfl)))) (fun _ _ => rfl) (Ent.sep enn) ?_) | (refine Hd.takeH 9 rfl (by kernel_rfl) (by kernel_rfl) (by kernel_rfl) (by kernel_rfl) (y_load1 ag78 rfl (Rd.seg1 pkk (by (first | rfl)))) (fun _ _ => rfl) (Ent.sep enn) ?_) | (refine Hd.takeH 9 rfl (by kernel_rfl) (by kernel_rfl) (by kernel_rfl) (by kernel_rfl) (y_loadR1 ag78 rfl (by (first | exact RdS.own pkk | exact RdS.head (RdS.own (ad := a2) (us := s.flatMap encPo) pkk) (by omega))) (by (first | rfl))) (fun _ _ => rfl) (Ent.sep enn) ?_)
        refine Hd.onlyH 0 rfl (by kernel_rfl) ?_
        first | (refine Hd.yv (y_loadn (us := [_, _, _, _, _]) ag93 rfl (Rd.pt pkk (by (first | (intro j v e; rcases j with _|_|_|_|_|_|_|_|_|_|_|_|j <;> first | exact e | exact absurd e (by simp))))) (by exact sz93)) ?_) | (refine Hd.yv (y_loadn (us := [_, _, _, _, _]) ag93 rfl (Rd.seg pkk (by (first | (intro j v e; rcases j with _|_|_|_|_|_|_|_|_|_|_|_|j <;> first | exact e | exact absurd e (by simp))))) (by exact sz93)) ?_) | (refine Hd.yv (y_loadRn ag93 rfl (by (first | exact RdS.own pkk | exact RdS.head (RdS.own (ad := a2) (us := s.flatMap encPo) pkk) (by omega))) (by (first | (intro j v e; rcases j with _|_|_|_|_|_|_|_|_|_|_|_|j <;> first | exact e | exact absurd e (by simp)))) (by exact sz93) (by simp)) ?_)
        refine Hd.nil ?_
        refine Hd.thenN ?_
        refine Hd.heldK (J := (fun j => !(([1000] : List Nat).contains j))) (i := 0) (Ent.sep enn) ?_
        refine Hd.onlyH 2 rfl (by kernel_rfl) ?_
        refine Hd.callE rfl fk41 (risen_ct _ y (readyR w s[i].1)) (Ent.sep enn) ?_
        intro _
        refine Hd.nil ?_
        refine Hd.thenN ?_
        refine Hd.heldK (J := (fun j => !(([1000] : List Nat).contains j))) (i := 2) (Ent.sep enn) ?_
        refine Hd.takeH 5 rfl (by kernel_rfl) (by kernel_rfl) (by kernel_rfl) (by kernel_rfl) (y_andNot rfl rfl) (fun _ _ => rfl) (Ent.sep enn) ?_
        first | (refine Hd.takeH 10 rfl (by kernel_rfl) (by kernel_rfl) (by kernel_rfl) (by kernel_rfl) (y_field' (q := 2) (ft := 3) Try.underlying93 rfl sz3 rfl rfl) (fun _ _ => rfl) (Ent.sep enn) ?_) | (refine Hd.takeH 10 rfl (by kernel_rfl) (by kernel_rfl) (by kernel_rfl) (by kernel_rfl) (y_fieldR (q := 2) (ft := 3) Try.underlying93 rfl sz3 rfl rfl) (fun _ _ => rfl) (Ent.sep enn) ?_)
        refine Hd.onlyH 11 rfl (by kernel_rfl) ?_
        first | (refine Hd.store1 sz3 rfl rfl rfl pkk (by first | decide | (simp; done) | (simp; omega)) ?_) | (refine Hd.storeG1 sz3 rfl rfl rfl pkk (by first | decide | (simp; done) | (simp; omega)) ?_) | (refine Hd.storeO1 sz3 rfl rfl rfl pkk (by first | omega | (simp; done) | (simp; omega)) ?_)
        try simp only [List.set_cons_zero, List.set_cons_succ]
        refine Hd.nil ?_
        refine Hd.thenN ?_
        refine Hd.heldK (J := (fun j => !(([1000] : List Nat).contains j))) (i := 11) (Ent.sep enn) ?_
        first | (refine Hd.takeH 12 rfl (by kernel_rfl) (by kernel_rfl) (by kernel_rfl) (by kernel_rfl) (y_field' (q := 3) (ft := 78) Try.underlying93 rfl sz78 rfl rfl) (fun _ _ => rfl) (Ent.sep enn) ?_) | (refine Hd.takeH 12 rfl (by kernel_rfl) (by kernel_rfl) (by kernel_rfl) (by kernel_rfl) (y_fieldR (q := 3) (ft := 78) Try.underlying93 rfl sz78 rfl rfl) (fun _ _ => rfl) (Ent.sep enn) ?_)
        refine Hd.onlyH 13 rfl (by kernel_rfl) ?_
        first | (refine Hd.store1 sz78 rfl rfl rfl pkk (by first | decide | (simp; done) | (simp; omega)) ?_) | (refine Hd.storeG1 sz78 rfl rfl rfl pkk (by first | decide | (simp; done) | (simp; omega)) ?_) | (refine Hd.storeO1 sz78 rfl rfl rfl pkk (by first | omega | (simp; done) | (simp; omega)) ?_)
        try simp only [List.set_cons_zero, List.set_cons_succ]
        refine Hd.nil ?_
        refine Hd.thenN ?_
        refine Hd.heldK (J := (fun j => !(([1000] : List Nat).contains j))) (i := 13) (Ent.sep enn) ?_
        first | (refine Hd.takeH 14 rfl (by kernel_rfl) (by kernel_rfl) (by kernel_rfl) (by kernel_rfl) (y_field' (q := 4) (ft := 78) Try.underlying93 rfl sz78 rfl rfl) (fun _ _ => rfl) (Ent.sep enn) ?_) | (refine Hd.takeH 14 rfl (by kernel_rfl) (by kernel_rfl) (by kernel_rfl) (by kernel_rfl) (y_fieldR (q := 4) (ft := 78) Try.underlying93 rfl sz78 rfl rfl) (fun _ _ => rfl) (Ent.sep enn) ?_)
        refine Hd.onlyH 15 rfl (by kernel_rfl) ?_
        first | (refine Hd.store1 sz78 rfl rfl rfl pkk (by first | decide | (simp; done) | (simp; omega)) ?_) | (refine Hd.storeG1 sz78 rfl rfl rfl pkk (by first | decide | (simp; done) | (simp; omega)) ?_) | (refine Hd.storeO1 sz78 rfl rfl rfl pkk (by first | omega | (simp; done) | (simp; omega)) ?_)
        try simp only [List.set_cons_zero, List.set_cons_succ]
        refine Hd.nil ?_
        refine Hd.thenN ?_
        refine Hd.heldK (J := (fun j => !(([1000] : List Nat).contains j))) (i := 15) (Ent.sep enn) ?_
        refine Hd.endH (by kernel_rfl) ?_
        refine Hd.slots [(0, _), (8, _), (10, _), (12, _), (30, _), (31, _), (32, _)] ⟨rfl, rfl, rfl, rfl, rfl, rfl, rfl, trivial⟩ ?_
        refine Hd.toK hK14 ?_
        refine Hd.tail 7 mixed (by kernel_rfl) ?_
        simp only [List.take, List.drop]
        refine Ht.yv (y_move rfl) ?_
        refine Ht.yv (y_nilp rfl) ?_
        first | (refine Ht.yv (y_field' (q := 2) (ft := 49) Try.underlying51 rfl sz49 rfl rfl) ?_) | (refine Ht.yv (y_fieldR (q := 2) (ft := 49) Try.underlying51 rfl sz49 rfl rfl) ?_)
        first | (refine Ht.yv (y_load1 ag49 rfl (Rd.pt1 pkk (by (first | rfl)))) ?_) | (refine Ht.yv (y_load1 ag49 rfl (Rd.seg1 pkk (by (first | rfl)))) ?_) | (refine Ht.yv (y_loadR1 ag49 rfl (by (first | exact RdS.own pkk | exact RdS.head (RdS.own (ad := a2) (us := s.flatMap encPo) pkk) (by omega))) (by (first | rfl))) ?_)
        first | (refine Ht.yv (y_field' (q := 0) (ft := 3) Try.underlying40 rfl sz3 rfl rfl) ?_) | (refine Ht.yv (y_fieldR (q := 0) (ft := 3) Try.underlying40 rfl sz3 rfl rfl) ?_)
        first | (refine Ht.yv (y_load1 ag3 rfl (Rd.pt1 pkk (by (first | rfl)))) ?_) | (refine Ht.yv (y_load1 ag3 rfl (Rd.seg1 pkk (by (first | rfl)))) ?_) | (refine Ht.yv (y_loadR1 ag3 rfl (by (first | exact RdS.own pkk | exact RdS.head (RdS.own (ad := a2) (us := s.flatMap encPo) pkk) (by omega))) (by (first | rfl))) ?_)
        first | (refine Ht.yv (y_loadn (us := [_, _, _, _, _]) ag93 rfl (Rd.pt pkk (by (first | (intro j v e; rcases j with _|_|_|_|_|_|_|_|_|_|_|_|j <;> first | exact e | exact absurd e (by simp))))) (by exact sz93)) ?_) | (refine Ht.yv (y_loadn (us := [_, _, _, _, _]) ag93 rfl (Rd.seg pkk (by (first | (intro j v e; rcases j with _|_|_|_|_|_|_|_|_|_|_|_|j <;> first | exact e | exact absurd e (by simp))))) (by exact sz93)) ?_) | (refine Ht.yv (y_loadRn ag93 rfl (by (first | exact RdS.own pkk | exact RdS.head (RdS.own (ad := a2) (us := s.flatMap encPo) pkk) (by omega))) (by (first | (intro j v e; rcases j with _|_|_|_|_|_|_|_|_|_|_|_|j <;> first | exact e | exact absurd e (by simp)))) (by exact sz93) (by simp)) ?_)
        refine Ht.nil ?_
        refine Hd.mapUpdate mapt49 rfl rfl rfl pkk ?_
        refine Hd.nil ?_
        refine Hd.slots [(0, _), (8, _), (30, _), (31, _), (32, _)] ⟨rfl, rfl, rfl, rfl, rfl, trivial⟩ ?_
        refine Hd.inB ?_
        refine Hd.toK hK11 ?_
        refine Hd.region ?_
        first | (refine Hd.yv (y_addn rfl rfl (by simp only [InK]; omega)) ?_) | (refine Hd.yv (y_add rfl rfl) ?_)
        refine Hd.yv (y_move rfl) ?_
        refine Hd.nil ?_
        refine Hd.slots [(0, _), (8, _), (30, _), (31, _), (32, _)] ⟨rfl, rfl, rfl, rfl, rfl, trivial⟩ ?_
        clear hK1 hK2 hK3 hK4 hK5 hK6 hK7 hK8 hK9 hK10 hK11 hK12 hK13 hK14
        refine Hd.thenN ?_
        exact Hd.again (i + 1, if (fmap (offF w f (s.take i)) s[i].1).isSome then m' else m' + 1) (by first | omega | (simp only; omega) | (simp; omega)) (by repeat (first | exact trivial | refine ⟨rfl, ?_⟩)) (Ent.sep (.pure ⟨by omega, by dsimp only; split <;> omega⟩ (.pick pkk (.pick pkk (.eq pkk (mp_eq (by rw [hsc, offF_app, fmap_upd, ← hy]; rfl) rfl) enn)))))
    ·
      try simp only [decide_eq_true_eq, decide_eq_false_iff_not, Bool.and_eq_true, Bool.or_eq_true, Bool.and_eq_false_iff, Bool.or_eq_false_iff, Bool.not_eq_true', Bool.not_eq_false', Bool.not_eq_true, Bool.not_eq_false, Int.not_lt, Int.not_le, Decidable.not_not, ne_eq] at hc2
      obtain rfl : i = kk := by omega
      refine Hd.exit ?_
      refine Hd.thenExit ?_
      refine Hd.thenExit ?_
      refine Hd.inBexit ?_
      refine Hd.toK hK7 ?_
      refine Hd.seq (fun K15 hK15 => ?_)
      refine Hd.region ?_
      refine Hd.yv (y_move rfl) ?_
      refine Hd.yv (y_assign rfl) ?_
      refine Hd.yv (y_assign rfl) ?_
      refine Hd.nil ?_
      refine Hd.slots [(6, _), (7, _)] ⟨rfl, rfl, trivial⟩ ?_
      refine Hd.toK hK15 ?_
      refine Hd.ret ?_
      clear hK1 hK2 hK3 hK4 hK5 hK6 hK7 hK8 hK9 hK10 hK15
      refine Hd.ownTake (e := 40) (ad := a2) (m := (dueL f w).length) (cap := c2) pkk i ((s.take i).flatMap encPo) ((s.drop i).flatMap encPo) (by omega) (by rw [← List.flatMap_append, List.take_append_drop]) (by rw [rows_len (k := 2) (fun _ => rfl), List.length_take]; omega) ?_
      rw [hpo, hpl]
      exact Hd.ret2 rfl (a2, c2, m') rfl rfl rfl (Ent.sep (.pure hp0.2 enn))
end Ep
end Go.Proofs.Ytbfddabjbkohdaa
namespace Go.Proofs.Ytbfddabjbkohdaa
set_option linter.unusedSimpArgs false
set_option linter.unusedVariables false
set_option linter.unnecessarySimpa false
open Go.RX Fx
namespace Wo
set_option maxRecDepth 8000
structure SbW (x x' : WireA) : Prop where
  e : ∀ k, k < 2 → ((x'.e k).what = 1 → (x.e k).what = 1) ∧ (x'.e k).fd = (x.e k).fd ∧ (x'.e k).rd = (x.e k).rd ∧ (x'.e k).wr = (x.e k).wr
  wh : ∀ k, k < 2 → 0 ≤ (x'.e k).what ∧ (x'.e k).what ≤ 3
  w0 : (x.e 0).what ≠ 0 → (x'.e 0).what ≠ 0
  ou : (x'.e 1).what = 2 → (x.e 1).what = 2
  wt : x'.wt.Sublist x.wt
  bl : x'.bl = x.bl
  cap : x'.cap = x.cap
  le : ∀ k, k < 2 → (x'.e k).b.length ≤ x.cap
  nb : ∀ k, k < 2 → (x.e k).rd = false → (x'.e k).b = []
theorem SmW.sb {x x' : WireA} (h : WfW x) (hs : SmW x x') : SbW x x' where
  e k hk := ⟨fun e => by rw [← (hs.e k hk).1]; exact e, (hs.e k hk).2⟩
  wh k hk := by rw [(hs.e k hk).1]; exact h.what k hk
  w0 e := by rw [(hs.e 0 (by omega)).1]; exact e
  ou e := by rw [← (hs.e 1 (by omega)).1]; exact e
  wt := by rw [hs.wt]; exact List.Sublist.refl _
  bl := hs.bl
  cap := hs.cap
  le := hs.le
  nb := hs.nb
theorem SbW.wf {x x' : WireA} (hs : SbW x x') (h : WfW x) : WfW x' where
  wr k hk := by rw [(hs.e k hk).2.2.2, (hs.e (1 - k) (by omega)).2.2.1]; exact h.wr k hk
  le k hk := by rw [hs.cap]; exact hs.le k hk
  nb k hk hr := hs.nb k hk (by rw [← (hs.e k hk).2.2.1]; exact hr)
  cap := by rw [hs.cap]; exact h.cap
  what := hs.wh
  bl := by
    rw [hs.bl]
    have := hs.wt.length_le
    have := h.bl
    omega
  ou e := by
    rw [(hs.e 0 (by omega)).2.2.1, (hs.e 1 (by omega)).2.2.1]
    exact h.ou (hs.ou e)
theorem flatMap_set_sub {α β : Type} {f : α → List β} : ∀ {l : List α} {n : Nat} {x x' : α}, l[n]? = some x → (f x').Sublist (f x) → ((l.set n x').flatMap f).Sublist (l.flatMap f)
  | [], _, _, _, h, _ => by simp at h
  | a :: l, 0, x, x', h, e => by
    obtain rfl : a = x := by simpa using h
    show (f x' ++ _).Sublist (f a ++ _)
    exact e.append (List.Sublist.refl _)
  | a :: l, n + 1, x, x', h, e => by
    show (f a ++ (l.set n x').flatMap f).Sublist (f a ++ l.flatMap f)
    exact (List.Sublist.refl _).append (flatMap_set_sub (by simpa using h) e)
theorem setW_get {w : WA} {n m : Nat} {x' y : WireA} (h : (w.setW n x').ws[m]? = some y) : (m = n ∧ y = x') ∨ (m ≠ n ∧ w.ws[m]? = some y) := set_at h
theorem setW_self {w : WA} {n : Nat} {x x' : WireA} (h : w.ws[n]? = some x) : (w.setW n x').ws[n]? = some x' := by
  show (w.ws.set n x')[n]? = _
  rw [List.getElem?_set_self (List.getElem?_eq_some_iff.1 h).1]
theorem setW_ne {w : WA} {n m : Nat} {x' : WireA} (h : m ≠ n) : (w.setW n x').ws[m]? = w.ws[m]? := by
  show (w.ws.set n x')[m]? = _
  rw [List.getElem?_set_ne (Ne.symm h)]
theorem setW_len {w : WA} {n : Nat} {x' : WireA} : (w.setW n x').ws.length = w.ws.length := by
  show (w.ws.set n x').length = _
  rw [List.length_set]
theorem WOk.setS {w : WA} (h : WOk w) {n : Nat} {x x' : WireA} (hx : w.ws[n]? = some x) (hs : SbW x x') (h0 : n ∈ (w.setW n x').ws.flatMap WireA.wt → (x'.e 0).what = 0) : WOk (w.setW n x') := by
  have hxm := List.mem_of_getElem? hx
  have hwf := h.wf x hxm
  have hfm : ((w.setW n x').ws.flatMap WireA.wt).Sublist (w.ws.flatMap WireA.wt) := flatMap_set_sub hx hs.wt
  have hat : ∀ {m : Nat} {y : WireA}, (w.setW n x').ws[m]? = some y → ∃ z, w.ws[m]? = some z ∧ ∀ k, k < 2 → ((y.e k).what = 1 → (z.e k).what = 1) ∧ (y.e k).fd = (z.e k).fd ∧ (y.e k).rd = (z.e k).rd := fun hm => by
    rcases setW_get hm with ⟨rfl, rfl⟩ | ⟨_, hm⟩
    · exact ⟨x, hx, fun k hk => ⟨(hs.e k hk).1, (hs.e k hk).2.1, (hs.e k hk).2.2.1⟩⟩
    · exact ⟨_, hm, fun _ _ => ⟨id, rfl, rfl⟩⟩
  refine ⟨?_, ?_, by rw [setW_len]; exact h.len, h.hdl, h.ctl, ?_, hfm.nodup h.wn, ?_, ?_, fun m y hm => by
    rcases setW_get hm with ⟨rfl, rfl⟩ | ⟨_, hm⟩
    · exact fun e => h.ns _ _ hx (hs.wt.subset e)
    · exact h.ns _ _ hm⟩
  · intro a b y z k j ha hb hk hj h1 h2 h3
    obtain ⟨y', ha', hy⟩ := hat ha
    obtain ⟨z', hb', hz⟩ := hat hb
    exact h.uq a b y' z' k j ha' hb' hk hj ((hy k hk).1 h1) ((hz j hj).1 h2) (by rw [← (hy k hk).2.1, ← (hz j hj).2.1]; exact h3)
  · intro y hy k hk h1
    obtain ⟨m, hm, e⟩ := List.getElem_of_mem hy
    obtain ⟨z, hz, he⟩ := hat (m := m) (y := y) (by rw [List.getElem?_eq_getElem hm, e])
    have := h.fd z (List.mem_of_getElem? hz) k hk ((he k hk).1 h1)
    rw [(he k hk).2.1]; exact this
  · intro y hy
    rcases List.mem_or_eq_of_mem_set hy with hy | rfl
    · exact h.wf y hy
    · exact hs.wf hwf
  · intro m hm
    by_cases e : m = n
    · subst e
      exact ⟨x', setW_self hx, h0 hm⟩
    · obtain ⟨z, hz, hz0⟩ := h.wm m (hfm.subset hm)
      exact ⟨z, by rw [setW_ne e]; exact hz, hz0⟩
  · intro m k hm
    obtain ⟨hk, z, hz, z0, z1⟩ := h.nt m k hm
    by_cases e : m = n
    · subst e
      rw [hx] at hz; obtain rfl := Option.some.inj hz
      exact ⟨hk, x', setW_self hx, by rw [(hs.e 0 (by omega)).2.2.1]; exact z0, by rw [(hs.e 1 (by omega)).2.2.1]; exact z1⟩
    · exact ⟨hk, z, by rw [setW_ne e]; exact hz, z0, z1⟩
theorem WOk.setS_at {w : WA} (h : WOk w) {n : Nat} {x x' : WireA} (hx : w.ws[n]? = some x) (hs : SbW x x') (h0 : n ∈ (w.setW n x').ws.flatMap WireA.wt → (x'.e 0).what = 0) (hk : ∀ k, k < 2 → (x.e k).what = 1 → (x'.e k).what = 1) : (w.setW n x').at = w.at := by
  funext fd
  refine atW_ext (h.setS hx hs h0).uq h.uq fun m k hk2 => ?_
  by_cases e : m = n
  · subst e
    rw [setW_self hx, hx]
    have := hs.e k hk2
    constructor
    · rintro ⟨y, hy, h1, h2⟩; obtain rfl := Option.some.inj hy; exact ⟨x, rfl, this.1 h1, this.2.1 ▸ h2⟩
    · rintro ⟨y, hy, h1, h2⟩; obtain rfl := Option.some.inj hy; exact ⟨x', rfl, hk k hk2 h1, by rw [this.2.1]; exact h2⟩
  · rw [setW_ne e]
theorem flatMap_set_app {α β : Type} {f : α → List β} {bs : List β} : ∀ {l : List α} {n : Nat} {x x' : α}, l[n]? = some x → f x' = f x ++ bs → ((l.set n x').flatMap f).Perm (bs ++ l.flatMap f)
  | [], _, _, _, h, _ => by simp at h
  | a :: l, 0, x, x', h, e => by
    obtain rfl : a = x := by simpa using h
    show (f x' ++ l.flatMap f).Perm (bs ++ (f a ++ l.flatMap f))
    rw [e, ← List.append_assoc]
    exact List.Perm.append_right _ List.perm_append_comm
  | a :: l, n + 1, x, x', h, e => by
    show (f a ++ (l.set n x').flatMap f).Perm (bs ++ (f a ++ l.flatMap f))
    have := flatMap_set_app (f := f) (l := l) (n := n) (by simpa using h) e
    refine (List.Perm.append_left (f a) this).trans ?_
    rw [← List.append_assoc, ← List.append_assoc]
    exact List.Perm.append_right _ List.perm_append_comm
end Wo
end Go.Proofs.Ytbfddabjbkohdaa
namespace Go.Proofs.Ytbfddabjbkohdaa
set_option linter.unusedSimpArgs false
set_option linter.unusedVariables false
set_option linter.unnecessarySimpa false
open Go.RX Fx
namespace Wo
set_option maxRecDepth 8000
structure Gr (w w' : WA) : Prop where
  all : ∀ (n : Nat) (x : WireA), w.ws[n]? = some x → ∃ x', w'.ws[n]? = some x' ∧ ((x.e 0).what ≠ 0 → (x'.e 0).what ≠ 0) ∧ ∀ k, k < 2 → (x.e k).inn ≤ (x'.e k).inn ∧ (x.e k).out ≤ (x'.e k).out ∧ ((x.e 0).what ≠ 0 → (x'.e k).what = 1 → (x.e k).what = 1 ∧ (x'.e k).fd = (x.e k).fd)
theorem Gr.refl (w : WA) : Gr w w := ⟨fun n x h => ⟨x, h, id, fun k _ => ⟨Int.le_refl _, Int.le_refl _, fun _ e => ⟨e, rfl⟩⟩⟩⟩
theorem Gr.trans {a b c : WA} (h : Gr a b) (g : Gr b c) : Gr a c := ⟨fun n x hx => by
  obtain ⟨y, hy, y0, ye⟩ := h.all n x hx
  obtain ⟨z, hz, z0, ze⟩ := g.all n y hy
  refine ⟨z, hz, fun e => z0 (y0 e), fun k hk => ?_⟩
  obtain ⟨a1, a2, a3⟩ := ye k hk
  obtain ⟨b1, b2, b3⟩ := ze k hk
  refine ⟨by omega, by omega, fun e e1 => ?_⟩
  obtain ⟨c1, c2⟩ := b3 (y0 e) e1
  obtain ⟨d1, d2⟩ := a3 e c1
  exact ⟨d1, by rw [c2, d2]⟩⟩
structure Lo (K : Nat) (w : WA) : Prop where
  ct : ∀ c ∈ w.ct, 0 ≤ c ∧ c ≤ (K : Int)
  rs : ∀ x ∈ w.ws, ∀ k, k < 2 → 0 ≤ (x.e k).inn ∧ (x.e k).inn ≤ (K : Int) ∧ 0 ≤ (x.e k).out ∧ (x.e k).out ≤ (K : Int)
  now : 0 ≤ w.now ∧ w.now ≤ 18446744073709551615
theorem Lo.mono {K K' : Nat} {w : WA} (h : Lo K w) (hk : K ≤ K') : Lo K' w := ⟨fun c hc => by have := h.ct c hc; omega, fun x hx k hk => by have := h.rs x hx k hk; omega, h.now⟩
def Stp (j : Nat) (w w' : WA) : Prop := ∀ K, K + j ≤ 1000000000 → Lo K w → Lo (K + j) w' ∧ Gr w w'
theorem Stp.refl (w : WA) : Stp 0 w w := fun _ _ h => ⟨h, Gr.refl w⟩
theorem Stp.mono {i j : Nat} {w w' : WA} (h : Stp i w w') (hij : i ≤ j) : Stp j w w' := fun K hK hl => by
  obtain ⟨h1, h2⟩ := h K (by omega) hl
  exact ⟨h1.mono (by omega), h2⟩
theorem Stp.same {j : Nat} (w : WA) : Stp j w w := (Stp.refl w).mono (Nat.zero_le _)
theorem Stp.trans {i j : Nat} {a b c : WA} (h : Stp i a b) (g : Stp j b c) : Stp (i + j) a c := fun K hK hl => by
  obtain ⟨h1, h2⟩ := h K (by omega) hl
  obtain ⟨g1, g2⟩ := g (K + i) (by omega) h1
  exact ⟨by rw [← Nat.add_assoc]; exact g1, h2.trans g2⟩
def RsE (e e' : EndA) : Prop := (e'.inn = e.inn ∨ e'.inn = IntKind.u64.wrap (e.inn + 1)) ∧ (e'.out = e.out ∨ e'.out = IntKind.u64.wrap (e.out + 1))
theorem RsE.refl (e : EndA) : RsE e e := ⟨.inl rfl, .inl rfl⟩
theorem rsE_rise (i o : Bool) (e : EndA) : RsE e (riseE i o e) := by
  unfold riseE RsE
  dsimp only
  constructor
  · by_cases h : (i && e.rd) = true
    · rw [if_pos h]; exact .inr rfl
    · rw [if_neg h]; exact .inl rfl
  · by_cases h : (o && e.wr) = true
    · rw [if_pos h]; exact .inr rfl
    · rw [if_neg h]; exact .inl rfl
theorem wrap_add {x : Int} {K : Nat} (h0 : 0 ≤ x) (h1 : x ≤ (K : Int)) (hK : K + 1 ≤ 1000000000) : IntKind.u64.wrap (x + 1) = x + 1 := by
  have : IntKind.u64.wrap (x + 1) = (x + 1) % 18446744073709551616 := rfl
  rw [this]; omega
theorem RsE.le {e e' : EndA} (h : RsE e e') {K : Nat} (hK : K + 1 ≤ 1000000000) (hl : 0 ≤ e.inn ∧ e.inn ≤ (K : Int) ∧ 0 ≤ e.out ∧ e.out ≤ (K : Int)) : e.inn ≤ e'.inn ∧ e.out ≤ e'.out ∧ 0 ≤ e'.inn ∧ e'.inn ≤ ((K + 1 : Nat) : Int) ∧ 0 ≤ e'.out ∧ e'.out ≤ ((K + 1 : Nat) : Int) := by
  obtain ⟨h1, h2⟩ := h
  rw [wrap_add hl.1 hl.2.1 hK] at h1
  rw [wrap_add hl.2.2.1 hl.2.2.2 hK] at h2
  omega
theorem stp_set {w : WA} {n : Nat} {x x' : WireA} (hx : w.ws[n]? = some x) (hr : ∀ k, k < 2 → RsE (x.e k) (x'.e k)) (h0 : (x.e 0).what ≠ 0 → (x'.e 0).what ≠ 0) (hn : (x.e 0).what ≠ 0 → ∀ k, k < 2 → (x'.e k).what = 1 → (x.e k).what = 1 ∧ (x'.e k).fd = (x.e k).fd) : Stp 1 w (w.setW n x') := fun K hK hl => by
  have hlx := hl.rs x (List.mem_of_getElem? hx)
  refine ⟨⟨(hl.mono (Nat.le_succ K)).ct, fun y hy k hk => ?_, hl.now⟩, ⟨fun m y hy => ?_⟩⟩
  · rcases List.mem_or_eq_of_mem_set hy with hy | rfl
    · exact (hl.mono (Nat.le_succ K)).rs y hy k hk
    · have := (hr k hk).le hK (hlx k hk)
      omega
  · by_cases e : m = n
    · subst e
      rw [hx] at hy; obtain rfl := Option.some.inj hy
      refine ⟨x', setW_self hx, h0, fun k hk => ?_⟩
      have := (hr k hk).le hK (hlx k hk)
      exact ⟨this.1, this.2.1, fun e0 e1 => hn e0 k hk e1⟩
    · exact ⟨y, by rw [setW_ne e]; exact hy, id, fun k _ => ⟨Int.le_refl _, Int.le_refl _, fun _ e => ⟨e, rfl⟩⟩⟩
theorem SbW.stp {w : WA} {n : Nat} {x x' : WireA} (hx : w.ws[n]? = some x) (hs : SbW x x') (hr : ∀ k, k < 2 → RsE (x.e k) (x'.e k)) : Stp 1 w (w.setW n x') :=
  stp_set hx hr hs.w0 fun _ k hk e => ⟨(hs.e k hk).1 e, (hs.e k hk).2.1⟩
theorem rs_up (x : WireA) (k : Nat) {f : EndA → EndA} (h : ∀ e, RsE e (f e)) : ∀ j, RsE (x.e j) ((x.up k f).e j) := fun j => by
  by_cases e : j = k
  · subst e; rw [up_at]; exact h _
  · rw [up_ne _ _ e]; exact RsE.refl _
theorem up_cnt (x : WireA) (k : Nat) {f : EndA → EndA} (h : ∀ e, (f e).inn = e.inn ∧ (f e).out = e.out) : ∀ j, ((x.up k f).e j).inn = (x.e j).inn ∧ ((x.up k f).e j).out = (x.e j).out := fun j => by
  by_cases e : j = k
  · subst e; rw [up_at]; exact h _
  · rw [up_ne _ _ e]; exact ⟨rfl, rfl⟩
theorem rs_close (x : WireA) (k : Nat) : ∀ j, RsE (x.e j) ((closeW x k).e j) := fun j => by
  unfold closeW
  have h1 := rs_up x (1 - k) (rsE_rise (!(x.e k).shut) true) j
  have h2 := up_cnt (x.up (1 - k) (riseE (!(x.e k).shut) true)) k (f := fun e => { e with what := 3 }) (fun _ => ⟨rfl, rfl⟩) j
  unfold RsE at h1 ⊢
  rw [h2.1, h2.2]; exact h1
theorem sbW_close {x : WireA} (h : WfW x) {k : Nat} (hk : k < 2) : SbW x (closeW x k) where
  e j hj := by
    obtain ⟨a, b, c, d, _⟩ := close_e x hk hj
    refine ⟨fun e => ?_, b, c, d⟩
    rw [a] at e
    split at e
    · cases e
    · exact e
  wh := (close_wf h hk).what
  w0 e := by
    rw [(close_e x hk (by omega)).1]
    split
    · decide
    · exact e
  ou e := by
    rw [(close_e x hk (by omega)).1] at e
    split at e
    · cases e
    · exact e
  wt := List.Sublist.refl _
  bl := rfl
  cap := rfl
  le j hj := by rw [(close_e x hk hj).2.2.2.2]; exact h.le j hj
  nb j hj hr := by rw [(close_e x hk hj).2.2.2.2]; exact h.nb j hj hr
def WireA.wts (x : WireA) (l : List Nat) : WireA := { x with wt := l }
theorem sbW_wts {x : WireA} (h : WfW x) {l : List Nat} (hl : l.Sublist x.wt) : SbW x (x.wts l) where
  e _ _ := ⟨id, rfl, rfl, rfl⟩
  wh := h.what
  w0 := id
  ou := id
  wt := hl
  bl := rfl
  cap := rfl
  le := h.le
  nb := h.nb
theorem SbW.trans {x y z : WireA} (h1 : SbW x y) (h2 : SbW y z) : SbW x z where
  e k hk := by
    obtain ⟨a1, a2, a3, a4⟩ := h1.e k hk
    obtain ⟨b1, b2, b3, b4⟩ := h2.e k hk
    exact ⟨fun e => a1 (b1 e), by rw [b2, a2], by rw [b3, a3], by rw [b4, a4]⟩
  wh := h2.wh
  w0 e := h2.w0 (h1.w0 e)
  ou e := h1.ou (h2.ou e)
  wt := h2.wt.trans h1.wt
  bl := by rw [h2.bl, h1.bl]
  cap := by rw [h2.cap, h1.cap]
  le k hk := by rw [← h1.cap]; exact h2.le k hk
  nb k hk hr := h2.nb k hk (by rw [(h1.e k hk).2.2.1]; exact hr)
def outW (w : WA) (n : Int) : Option WireA := if n < 0 then none else match w.ws[n.toNat]? with
  | none => none
  | some x => if (x.e 1).what = 2 then some x else none
theorem outW_some {w : WA} {n : Int} {x : WireA} (h : outW w n = some x) : 0 ≤ n ∧ w.ws[n.toNat]? = some x ∧ (x.e 1).what = 2 := by
  unfold outW at h
  split at h
  · cases h
  · split at h
    · cases h
    · rename_i y hy
      split at h
      · rename_i h2; obtain rfl := Option.some.inj h; exact ⟨by omega, hy, h2⟩
      · cases h
def putR (w : WA) (n : Int) (bs : List UInt8) : (Int × Int) × WA := match outW w n with
  | none => ((0, 116), w)
  | some x => if x.rs = true then ((0, 115), w) else if (x.e 1).shut = true ∨ (x.e 0).what = 3 then ((0, 114), w) else (((putN x 1 bs : Nat), 0), w.setW n.toNat (putW x 1 bs))
def closeAll : List WireA → List Nat → List WireA
  | ws, [] => ws
  | ws, n :: t => closeAll (match ws[n]? with | some y => ws.set n (closeW y 0) | none => ws) t
def closeF (w : WA) (fd : Int) : Int × WA := match w.at fd with
  | none => (110, w)
  | some (m, k) => match w.ws[m]? with
    | none => (110, w)
    | some x => (0, { w with ws := closeAll (w.ws.set m ((closeW x k).wts [])) x.wt })
def connW (n : Nat) : WireA := (halfW n 2).up 1 fun e => { e with what := 2 }
end Wo
end Go.Proofs.Ytbfddabjbkohdaa
namespace Go.Proofs.Ytbfddabjbkohdaa
set_option linter.unusedSimpArgs false
set_option linter.unusedVariables false
set_option linter.unnecessarySimpa false
open Go.RX Fx
namespace Wo
set_option maxRecDepth 8000
theorem sbW_closeP {w : WA} (h : WOk w) {m k : Nat} {x : WireA} {fd : Int} (hn : w.at fd = some (m, k)) (hx : w.ws[m]? = some x) : SbW x ((closeW x k).wts []) := by
  have hwf := h.wf x (List.mem_of_getElem? hx)
  have hk := (h.at_lt hn).2.2.1
  exact (sbW_close hwf hk).trans (sbW_wts (close_wf hwf hk) (List.nil_sublist _))
theorem closeAll_ok : ∀ (l : List Nat) (w : WA), WOk w → l.Nodup → (∀ n ∈ l, ∃ y, w.ws[n]? = some y ∧ (y.e 0).what = 0) → (∀ n ∈ l, n ∉ w.ws.flatMap WireA.wt) →
    WOk { w with ws := closeAll w.ws l } ∧ WA.at { w with ws := closeAll w.ws l } = w.at ∧ Stp l.length w { w with ws := closeAll w.ws l }
  | [], w, h, _, _, _ => ⟨h, rfl, Stp.refl w⟩
  | n :: t, w, h, hd, h0, hw => by
    obtain ⟨y, hy, hy0⟩ := h0 n List.mem_cons_self
    have hwf := h.wf y (List.mem_of_getElem? hy)
    have hs := sbW_close hwf (k := 0) (by omega)
    have hfm : (w.setW n (closeW y 0)).ws.flatMap WireA.wt = w.ws.flatMap WireA.wt := flatMap_set hy rfl
    have hni : n ∉ (w.setW n (closeW y 0)).ws.flatMap WireA.wt := by rw [hfm]; exact hw n List.mem_cons_self
    have hok := h.setS hy hs (fun e => absurd e hni)
    have hat := h.setS_at hy hs (fun e => absurd e hni) (fun k hk e => by
      rw [(close_e y (by omega) hk).1]
      split
      · rename_i e0; subst e0; rw [hy0] at e; cases e
      · exact e)
    have ih := closeAll_ok t (w.setW n (closeW y 0)) hok (List.nodup_cons.1 hd).2 (fun a ha => by
      obtain ⟨z, hz, hz0⟩ := h0 a (List.mem_cons_of_mem _ ha)
      have : a ≠ n := fun e => (List.nodup_cons.1 hd).1 (e ▸ ha)
      exact ⟨z, by rw [setW_ne this]; exact hz, hz0⟩) (fun a ha => by rw [hfm]; exact hw a (List.mem_cons_of_mem _ ha))
    have e : closeAll w.ws (n :: t) = closeAll (w.setW n (closeW y 0)).ws t := by
      show closeAll (match w.ws[n]? with | some y => w.ws.set n (closeW y 0) | none => w.ws) t = _
      rw [hy]; rfl
    have e2 : ({ w with ws := closeAll w.ws (n :: t) } : WA) = { w.setW n (closeW y 0) with ws := closeAll (w.setW n (closeW y 0)).ws t } := by rw [e]; rfl
    rw [e2]
    refine ⟨ih.1, ih.2.1.trans hat, ?_⟩
    rw [List.length_cons, Nat.add_comm]
    exact (hs.stp hy fun j _ => rs_close y 0 j).trans ih.2.2
theorem wt_le {w : WA} (h : WOk w) {m : Nat} {x : WireA} (hx : w.ws[m]? = some x) : x.wt.length ≤ 64 := by
  have := (h.wf x (List.mem_of_getElem? hx)).bl
  omega
theorem wt_gone {w : WA} (h : WOk w) {m : Nat} {x x' : WireA} (hx : w.ws[m]? = some x) (hx' : x'.wt = []) : ∀ n ∈ x.wt, n ∉ (w.setW m x').ws.flatMap WireA.wt := by
  have hp := flatMap_set_app (f := WireA.wt) (bs := x.wt) (l := (w.setW m x').ws) (n := m) (x := x') (x' := x) (setW_self hx) (by rw [hx']; rfl)
  have e : (w.setW m x').ws.set m x = w.ws := by
    show (w.ws.set m x').set m x = w.ws
    rw [List.set_set]
    obtain ⟨hl, e⟩ := List.getElem?_eq_some_iff.1 hx
    rw [← e, List.set_getElem_self]
  rw [e] at hp
  have hn := hp.nodup_iff.1 h.wn
  intro n h1 h2
  exact (List.nodup_append.1 hn).2.2 n h1 n h2 rfl
theorem sub_flatMap {α β : Type} {f : α → List β} : ∀ {l : List α} {n : Nat} {x : α}, l[n]? = some x → (f x).Sublist (l.flatMap f)
  | [], _, _, h => by simp at h
  | a :: l, 0, x, h => by
    obtain rfl : a = x := by simpa using h
    exact List.sublist_append_left _ _
  | a :: l, n + 1, x, h => (sub_flatMap (f := f) (l := l) (n := n) (by simpa using h)).trans (List.sublist_append_right _ _)
theorem closeF_ok {w : WA} (h : WOk w) (fd : Int) : WOk (closeF w fd).2 ∧ (closeF w fd).2.at = setT w.at fd none ∧ Stp 65 w (closeF w fd).2 := by
  unfold closeF
  split
  · rename_i hn
    refine ⟨h, ?_, Stp.same w⟩
    funext a
    show w.at a = if a = fd then none else w.at a
    split
    · rename_i e; rw [e]; exact hn
    · rfl
  · rename_i m k hn
    obtain ⟨_, _, hk, _, x0, hx0, hxw, _⟩ := h.at_lt hn
    split
    · rename_i hx; rw [hx] at hx0; cases hx0
    · rename_i x hx
      rw [hx] at hx0; obtain rfl := Option.some.inj hx0
      have hwf := h.wf x (List.mem_of_getElem? hx)
      have hc := h.closeW hn hx
      have hs := sbW_closeP h hn hx
      have hgo := wt_gone h hx (x' := (closeW x k).wts []) rfl
      have hsub : ∀ n ∈ x.wt, n ∈ w.ws.flatMap WireA.wt := fun n hn => List.mem_flatMap.2 ⟨x, List.mem_of_getElem? hx, hn⟩
      have h00 : ∀ n ∈ x.wt, ∃ y, (w.setW m ((closeW x k).wts [])).ws[n]? = some y ∧ (y.e 0).what = 0 := fun n hn => by
        obtain ⟨y, hy, hy0⟩ := h.wm n (hsub n hn)
        by_cases e : n = m
        · subst e
          rw [hx] at hy; obtain rfl := Option.some.inj hy
          refine ⟨_, setW_self hx, ?_⟩
          show ((closeW x k).e 0).what = 0
          rw [(close_e x hk (by omega)).1, if_neg]
          · exact hy0
          · intro e; subst e; rw [hy0] at hxw; cases hxw
        · exact ⟨y, by rw [setW_ne e]; exact hy, hy0⟩
      have hm0 : m ∈ (w.setW m ((closeW x k).wts [])).ws.flatMap WireA.wt → (((closeW x k).wts []).e 0).what = 0 := fun e => by
        have := (flatMap_set_sub (f := WireA.wt) (x' := (closeW x k).wts []) hx (List.nil_sublist _)).subset e
        obtain ⟨y, hy, hy0⟩ := h.wm m this
        rw [hx] at hy; obtain rfl := Option.some.inj hy
        show ((closeW x k).e 0).what = 0
        rw [(close_e x hk (by omega)).1, if_neg]
        · exact hy0
        · intro e; subst e; rw [hy0] at hxw; cases hxw
      have hok := h.setS hx hs hm0
      have hat : (w.setW m ((closeW x k).wts [])).at = setT w.at fd none := by
        rw [← hc.2]
        have h2 : (w.setW m (closeW x k)).ws[m]? = some (closeW x k) := setW_self hx
        have e : w.setW m ((closeW x k).wts []) = (w.setW m (closeW x k)).setW m ((closeW x k).wts []) := by
          show ({ w with ws := _ } : WA) = { w with ws := _ }
          congr 1
          show _ = (w.ws.set m _).set m _
          rw [List.set_set]
        rw [e]
        refine hc.1.setS_at h2 (sbW_wts (close_wf hwf hk) (List.nil_sublist _)) (by rw [← e]; exact hm0) fun _ _ e => e
      have hx1 := (wt_le h hx)
      obtain ⟨a, b, c⟩ := closeAll_ok x.wt (w.setW m ((closeW x k).wts [])) hok ((sub_flatMap (f := WireA.wt) hx).nodup h.wn) h00 hgo
      refine ⟨a, b.trans hat, ?_⟩
      exact ((hs.stp hx fun j _ => rs_close x k j).trans c).mono (by omega)
theorem conn_e (n k : Nat) (hk : k < 2) : ((connW n).e k).what = (if k = 1 then 2 else 0) ∧ ((connW n).e k).rd = true ∧ ((connW n).e k).wr = true ∧ ((connW n).e k).b = [] ∧ ((connW n).e k).inn = 0 ∧ ((connW n).e k).out = 0 := by
  rcases (show k = 0 ∨ k = 1 by omega) with rfl | rfl
  · exact ⟨rfl, rfl, rfl, rfl, rfl, rfl⟩
  · exact ⟨rfl, rfl, rfl, rfl, rfl, rfl⟩
theorem conn_new {n l : Nat} (h : n ≤ 65536) : NewW (connW n) l := by
  have e := conn_e n
  refine ⟨⟨fun k hk => by rw [(e k hk).2.2.1, (e (1 - k) (by omega)).2.1], fun k hk => by rw [(e k hk).2.2.2.1]; exact Nat.zero_le _, fun k hk _ => (e k hk).2.2.2.1, h, fun k hk => ?_, ⟨Int.le_refl _, by show (0 : Int) ≤ 64; decide, by show ((0 : Nat) : Int) ≤ 0; decide⟩, fun _ => ⟨rfl, rfl⟩⟩, fun k hk => ?_, rfl⟩
  · rw [(e k hk).1]; split <;> decide
  · rw [(e k hk).1]; split <;> decide
end Wo
end Go.Proofs.Ytbfddabjbkohdaa
namespace Go.Proofs.Ytbfddabjbkohdaa
set_option linter.unusedSimpArgs false
set_option linter.unusedVariables false
set_option linter.unnecessarySimpa false
open Go.RX Fx
namespace Wo
set_option maxRecDepth 8000
theorem wol_back {wb n b : Nat} {w : WA} {i : WoI} {x : WireA} {L : List SP} (hb : i.rs[n]? = some (b, x)) : ∀ h, sep (WireP b x :: WoR wb n w i L) h → sep (WoL wb w i L) h := by
  intro h s
  obtain ⟨hn, e⟩ := List.getElem?_eq_some_iff.1 hb
  have h1 : sep (WireP b x :: Wires (i.rs.take n) :: Wires (i.rs.drop (n + 1)) :: WoH wb w.at w i.rs.length i :: own 81 1 i.wa i.rs.length i.wc (pws i.rs) :: SigP i.sb w.hd w.ct :: L) h := Ent.sep enn h s
  have h2 := ws_in hn h1
  rw [← e, List.set_getElem_self] at h2
  exact Ent.sep enn h h2
def outB (i : WoI) (w : WA) (n : Int) : Option Nat := if (outW w n).isSome then (i.rs[n.toNat]?).map Prod.fst else none
def outE (w : WA) (n : Int) : Int := if (outW w n).isSome then 0 else 116
theorem outW_nat {w : WA} {n : Nat} {x : WireA} (hx : w.ws[n]? = some x) : outW w (n : Int) = if (x.e 1).what = 2 then some x else none := by
  unfold outW
  rw [if_neg (by omega), Int.toNat_natCast, hx]
theorem outW_off {w : WA} {n : Int} (h : n < 0 ∨ (w.ws.length : Int) ≤ n) : outW w n = none := by
  unfold outW
  split
  · rfl
  · rw [List.getElem?_eq_none (by omega)]
set_option maxHeartbeats 2000000 in
theorem outer1_ct (L : List SP) (wb : Nat) (w : WA) (i : WoI) (hw : WOk w) (hrs : i.rs.map Prod.snd = w.ws) (n b : Nat) (x : WireA) (hb : i.rs[n]? = some (b, x)) : Ct Try.prog 42 #[.pointer (some ⟨wb, 0, none⟩), .int .i64 (n : Int)] (WoL wb w i L) (fun _ : Unit => .tuple #[ptr (if (x.e 1).what = 2 then some b else none), .int .i64 (if (x.e 1).what = 2 then 0 else 116)]) (fun _ : Unit => WoL wb w i L) := by
  refine Ct.of (vs := [.pointer (some ⟨wb, 0, none⟩), .int .i64 (n : Int)]) Try.func42 rfl rfl [(0, .pointer (some ⟨wb, 0, none⟩)), (1, .int .i64 (n : Int))] (by repeat (first | exact trivial | refine ⟨rfl, ?_⟩)) ?_
  intro E
  show Hd E 43 _ _ _ _
  have hn := (List.getElem?_eq_some_iff.1 hb).1
  refine Hd.seq (fun K1 hK1 => ?_)
  refine Hd.region ?_
  refine Hd.yv (y_assign rfl) ?_
  refine Hd.yv (y_assign rfl) ?_
  refine Hd.nil ?_
  refine Hd.slots [(0, _), (1, _)] ⟨rfl, rfl, trivial⟩ ?_
  refine Hd.toK hK1 ?_
  refine Hd.seq (fun K2 hK2 => ?_)
  refine Hd.block ?_
  refine Hd.seq (fun K3 hK3 => ?_)
  refine Hd.region ?_
  refine Hd.yv (y_move rfl) ?_
  refine Hd.callE rfl fk52 (wnone_ct _ wb w.at w i.rs.length i) (Ent.sep enn) ?_
  intro _
  refine Hd.yv (y_assign rfl) ?_
  refine Hd.nil ?_
  refine Hd.slots [(0, _), (1, _), (6, _)] ⟨rfl, rfl, rfl, trivial⟩ ?_
  refine Hd.toK hK3 ?_
  refine Hd.condF rfl ?_
  refine Hd.seq (fun K4 hK4 => ?_)
  refine Hd.wOut pkk hb ?_
  refine Hd.wire .here 1 (by omega) (fun i2 hi => ?_)
  refine Hd.region ?_
  refine Hd.yv (y_move rfl) ?_
  refine Hd.yv (y_lss rfl rfl) ?_
  refine Hd.yv (y_move rfl) ?_
  apply Hd.org 8 12 20 [(0, _), (1, _)] rfl ⟨rfl, rfl, trivial⟩
  · intro hg3_12
    try simp only [decide_eq_true_eq, decide_eq_false_iff_not, Bool.and_eq_true, Bool.or_eq_true, Bool.and_eq_false_iff, Bool.or_eq_false_iff, Bool.not_eq_true', Bool.not_eq_false', Bool.not_eq_true, Bool.not_eq_false, Int.not_lt, Int.not_le, Decidable.not_not, ne_eq] at hg3_12
    simp only [List.take]
    refine Hd.ng rfl rfl rfl ?_
    refine Hd.ng rfl rfl rfl ?_
    refine Hd.ng rfl rfl rfl ?_
    refine Hd.ng rfl rfl rfl ?_
    refine Hd.ng rfl rfl rfl ?_
    refine Hd.ng rfl rfl rfl ?_
    refine Hd.ng rfl rfl rfl ?_
    first | (refine Hd.yv (y_pickT rfl rfl) ?_) | (refine Hd.yv (y_pickF rfl rfl) ?_) | (refine Hd.yv (y_pickb rfl rfl rfl) ?_) | (refine Hd.yv (y_pick rfl rfl rfl) ?_)
    refine Hd.nil ?_
    exact Hd.mend (by repeat (first | exact trivial | refine ⟨rfl, ?_⟩)) (Ent.sep enn)
  · intro hg3_12
    try simp only [decide_eq_true_eq, decide_eq_false_iff_not, Bool.and_eq_true, Bool.or_eq_true, Bool.and_eq_false_iff, Bool.or_eq_false_iff, Bool.not_eq_true', Bool.not_eq_false', Bool.not_eq_true, Bool.not_eq_false, Int.not_lt, Int.not_le, Decidable.not_not, ne_eq] at hg3_12
    simp only [List.take]
    refine Hd.yg rfl rfl (y_move rfl) ?_
    refine Hd.yg rfl rfl (y_move rfl) ?_
    refine Hd.yg rfl rfl (y_nilp rfl) ?_
    first | (refine Hd.yg rfl rfl (y_field' (q := 288) (ft := 77) Try.underlying80 rfl sz77 rfl rfl) ?_) | (refine Hd.yg rfl rfl (y_fieldR (q := 288) (ft := 77) Try.underlying80 rfl sz77 rfl rfl) ?_)
    first | (refine Hd.yg rfl rfl (y_load1 ag77 rfl (Rd.pt1 pkk (by (first | exact woT_at (j := 0) (by omega) rfl | exact pws_at hb | rfl)))) ?_) | (refine Hd.yg rfl rfl (y_load1 ag77 rfl (Rd.seg1 pkk (by (first | exact woT_at (j := 0) (by omega) rfl | exact pws_at hb | rfl)))) ?_) | (refine Hd.yg rfl rfl (y_loadR1 ag77 rfl (by (first | exact RdS.own pkk)) (by (first | exact woT_at (j := 0) (by omega) rfl | exact pws_at hb | rfl))) ?_)
    refine Hd.yg rfl rfl (y_len Try.underlying77 rfl) ?_
    refine Hd.yg rfl rfl (y_geq rfl rfl) ?_
    first | (refine Hd.yv (y_pickT rfl rfl) ?_) | (refine Hd.yv (y_pickF rfl rfl) ?_) | (refine Hd.yv (y_pickb rfl rfl rfl) ?_) | (refine Hd.yv (y_pick rfl rfl rfl) ?_)
    refine Hd.nil ?_
    exact Hd.mend (by repeat (first | exact trivial | refine ⟨rfl, ?_⟩)) (Ent.sep enn)
  simp only [List.drop]
  refine Hd.yv (y_move rfl) ?_
  apply Hd.org (q := decide ((x.e 1).what ≠ 2)) 14 21 35 [(0, _), (1, _)] rfl ⟨rfl, rfl, trivial⟩
  · intro hg3_21
    try simp only [decide_eq_true_eq, decide_eq_false_iff_not, Bool.and_eq_true, Bool.or_eq_true, Bool.and_eq_false_iff, Bool.or_eq_false_iff, Bool.not_eq_true', Bool.not_eq_false', Bool.not_eq_true, Bool.not_eq_false, Int.not_lt, Int.not_le, Decidable.not_not, ne_eq] at hg3_21
    simp only [List.take]
    refine Hd.ng rfl rfl rfl ?_
    refine Hd.ng rfl rfl rfl ?_
    refine Hd.ng rfl rfl rfl ?_
    refine Hd.ng rfl rfl rfl ?_
    refine Hd.ng rfl rfl rfl ?_
    refine Hd.ng rfl rfl rfl ?_
    refine Hd.ng rfl rfl rfl ?_
    refine Hd.ng rfl rfl rfl ?_
    refine Hd.ng rfl rfl rfl ?_
    refine Hd.ng rfl rfl rfl ?_
    refine Hd.ng rfl rfl rfl ?_
    refine Hd.ng rfl rfl rfl ?_
    refine Hd.ng rfl rfl rfl ?_
    first | (refine Hd.yv (y_pickT rfl rfl) ?_) | (refine Hd.yv (y_pickF rfl rfl) ?_) | (refine Hd.yv (y_pickb rfl rfl rfl) ?_) | (refine Hd.yv (y_pick rfl rfl rfl) ?_)
    refine Hd.nil ?_
    exact Hd.mend (by repeat (first | exact trivial | refine ⟨rfl, ?_⟩)) (Ent.sep enn)
  · intro hg3_21
    try simp only [decide_eq_true_eq, decide_eq_false_iff_not, Bool.and_eq_true, Bool.or_eq_true, Bool.and_eq_false_iff, Bool.or_eq_false_iff, Bool.not_eq_true', Bool.not_eq_false', Bool.not_eq_true, Bool.not_eq_false, Int.not_lt, Int.not_le, Decidable.not_not, ne_eq] at hg3_21
    simp only [List.take]
    refine Hd.yg rfl rfl (y_move rfl) ?_
    refine Hd.yg rfl rfl (y_nilp rfl) ?_
    first | (refine Hd.yg rfl rfl (y_field' (q := 288) (ft := 77) Try.underlying80 rfl sz77 rfl rfl) ?_) | (refine Hd.yg rfl rfl (y_fieldR (q := 288) (ft := 77) Try.underlying80 rfl sz77 rfl rfl) ?_)
    first | (refine Hd.yg rfl rfl (y_load1 ag77 rfl (Rd.pt1 pkk (by (first | exact woT_at (j := 0) (by omega) rfl | exact pws_at hb | rfl)))) ?_) | (refine Hd.yg rfl rfl (y_load1 ag77 rfl (Rd.seg1 pkk (by (first | exact woT_at (j := 0) (by omega) rfl | exact pws_at hb | rfl)))) ?_) | (refine Hd.yg rfl rfl (y_loadR1 ag77 rfl (by (first | exact RdS.own pkk)) (by (first | exact woT_at (j := 0) (by omega) rfl | exact pws_at hb | rfl))) ?_)
    refine Hd.yg rfl rfl (y_move rfl) ?_
    first | (refine Hd.yg rfl rfl (y_idxS Try.underlying77 sz81 rfl rfl (by first | omega | decide)) ?_) | (refine Hd.yg rfl rfl (y_idxR Try.underlying77 sz81 rfl rfl (by first | omega | decide) (by (first | exact RdS.own pkk))) ?_)
    first | (refine Hd.yg rfl rfl (y_load1 ag81 rfl (Rd.pt1 pkk (by (first | exact woT_at (j := 0) (by omega) rfl | exact pws_at hb | rfl)))) ?_) | (refine Hd.yg rfl rfl (y_load1 ag81 rfl (Rd.seg1 pkk (by (first | exact woT_at (j := 0) (by omega) rfl | exact pws_at hb | rfl)))) ?_) | (refine Hd.yg rfl rfl (y_loadR1 ag81 rfl (by (first | exact RdS.own pkk)) (by (first | exact woT_at (j := 0) (by omega) rfl | exact pws_at hb | rfl))) ?_)
    refine Hd.yg rfl rfl (y_nilp rfl) ?_
    first | (refine Hd.yg rfl rfl (y_field' (q := 0) (ft := 86) Try.underlying88 rfl sz86 rfl rfl) ?_) | (refine Hd.yg rfl rfl (y_fieldR (q := 0) (ft := 86) Try.underlying88 rfl sz86 rfl rfl) ?_)
    first | (refine Hd.yg rfl rfl (y_idxA Try.underlying86 sz85 rfl rfl (by first | omega | decide)) ?_) | (refine Hd.yg rfl rfl (y_idxAR Try.underlying86 sz85 rfl rfl (by first | omega | decide)) ?_)
    first | (refine Hd.yg rfl rfl (y_field' (q := 0) (ft := 3) Try.underlying85 rfl sz3 rfl rfl) ?_) | (refine Hd.yg rfl rfl (y_fieldR (q := 0) (ft := 3) Try.underlying85 rfl sz3 rfl rfl) ?_)
    first | (refine Hd.yg rfl rfl (y_load1 ag3 rfl (Rd.pt1 pkk (by (first | exact woT_at (j := 0) (by omega) rfl | exact pws_at hb | rfl)))) ?_) | (refine Hd.yg rfl rfl (y_load1 ag3 rfl (Rd.seg1 pkk (by (first | exact woT_at (j := 0) (by omega) rfl | exact pws_at hb | rfl)))) ?_) | (refine Hd.yg rfl rfl (y_loadR1 ag3 rfl (by (first | exact RdS.own pkk)) (by (first | exact woT_at (j := 0) (by omega) rfl | exact pws_at hb | rfl))) ?_)
    refine Hd.yg rfl rfl (y_neq rfl rfl) ?_
    first | (refine Hd.yv (y_pickT rfl rfl) ?_) | (refine Hd.yv (y_pickF rfl rfl) ?_) | (refine Hd.yv (y_pickb rfl rfl rfl) ?_) | (refine Hd.yv (y_pick rfl rfl rfl) ?_)
    refine Hd.nil ?_
    exact Hd.mend (by repeat (first | exact trivial | refine ⟨rfl, ?_⟩)) (Ent.sep enn)
  simp only [List.drop]
  refine Hd.yv (y_assign rfl) ?_
  refine Hd.nil ?_
  refine Hd.slots [(0, _), (1, _), (9, _)] ⟨rfl, rfl, rfl, trivial⟩ ?_
  refine Hd.toK hK4 ?_
  refine Hd.cond rfl (fun hc1 => ?_) (fun hc1 => ?_)
  ·
    try simp only [decide_eq_true_eq, decide_eq_false_iff_not, Bool.and_eq_true, Bool.or_eq_true, Bool.and_eq_false_iff, Bool.or_eq_false_iff, Bool.not_eq_true', Bool.not_eq_false', Bool.not_eq_true, Bool.not_eq_false, Int.not_lt, Int.not_le, Decidable.not_not, ne_eq] at hc1
    refine Hd.seq (fun K5 hK5 => ?_)
    refine Hd.region ?_
    refine Hd.yv (y_assign rfl) ?_
    refine Hd.yv (y_assign rfl) ?_
    refine Hd.nil ?_
    refine Hd.slots [(4, _), (5, _)] ⟨rfl, rfl, trivial⟩ ?_
    refine Hd.toK hK5 ?_
    refine Hd.ret ?_
    refine Hd.inBret ?_
    refine Hd.thenRet ?_
    clear hK1 hK2 hK3 hK4 hK5
    have h2 : ¬ ((x.e 1).what = 2) := by
      rcases hc1 with h | h
      · omega
      · exact h
    rw [if_neg h2, if_neg h2]
    exact Hd.ret2 rfl () rfl rfl rfl (fun q s => wol_back hb q (wire_fold (k := 1) hi (by omega) q (Ent.sep enn q s)))
  ·
    try simp only [decide_eq_true_eq, decide_eq_false_iff_not, Bool.and_eq_true, Bool.or_eq_true, Bool.and_eq_false_iff, Bool.or_eq_false_iff, Bool.not_eq_true', Bool.not_eq_false', Bool.not_eq_true, Bool.not_eq_false, Int.not_lt, Int.not_le, Decidable.not_not, ne_eq] at hc1
    refine Hd.skip ?_
    refine Hd.inB ?_
    refine Hd.toK hK2 ?_
    refine Hd.seq (fun K6 hK6 => ?_)
    refine Hd.region ?_
    refine Hd.yv (y_move rfl) ?_
    refine Hd.yv (y_nilp rfl) ?_
    first | (refine Hd.yv (y_field' (q := 288) (ft := 77) Try.underlying80 rfl sz77 rfl rfl) ?_) | (refine Hd.yv (y_fieldR (q := 288) (ft := 77) Try.underlying80 rfl sz77 rfl rfl) ?_)
    first | (refine Hd.yv (y_load1 ag77 rfl (Rd.pt1 pkk (by (first | exact woT_at (j := 0) (by omega) rfl | exact pws_at hb | rfl)))) ?_) | (refine Hd.yv (y_load1 ag77 rfl (Rd.seg1 pkk (by (first | exact woT_at (j := 0) (by omega) rfl | exact pws_at hb | rfl)))) ?_) | (refine Hd.yv (y_loadR1 ag77 rfl (by (first | exact RdS.own pkk)) (by (first | exact woT_at (j := 0) (by omega) rfl | exact pws_at hb | rfl))) ?_)
    refine Hd.yv (y_move rfl) ?_
    first | (refine Hd.yv (y_idxS Try.underlying77 sz81 rfl rfl (by first | omega | decide)) ?_) | (refine Hd.yv (y_idxR Try.underlying77 sz81 rfl rfl (by first | omega | decide) (by (first | exact RdS.own pkk))) ?_)
    first | (refine Hd.yv (y_load1 ag81 rfl (Rd.pt1 pkk (by (first | exact woT_at (j := 0) (by omega) rfl | exact pws_at hb | rfl)))) ?_) | (refine Hd.yv (y_load1 ag81 rfl (Rd.seg1 pkk (by (first | exact woT_at (j := 0) (by omega) rfl | exact pws_at hb | rfl)))) ?_) | (refine Hd.yv (y_loadR1 ag81 rfl (by (first | exact RdS.own pkk)) (by (first | exact woT_at (j := 0) (by omega) rfl | exact pws_at hb | rfl))) ?_)
    refine Hd.yv (y_assign rfl) ?_
    refine Hd.yv (y_assign rfl) ?_
    refine Hd.nil ?_
    refine Hd.slots [(4, _), (5, _)] ⟨rfl, rfl, trivial⟩ ?_
    refine Hd.toK hK6 ?_
    refine Hd.ret ?_
    clear hK1 hK2 hK3 hK4 hK6
    rw [if_pos hc1.2, if_pos hc1.2]
    exact Hd.ret2 rfl () rfl rfl rfl (fun q s => wol_back hb q (wire_fold (k := 1) hi (by omega) q (Ent.sep enn q s)))
set_option maxHeartbeats 2000000 in
theorem outer0_ct (L : List SP) (wb : Nat) (w : WA) (i : WoI) (n : Int) (hn : n < 0 ∨ (i.rs.length : Int) ≤ n) : Ct Try.prog 42 #[.pointer (some ⟨wb, 0, none⟩), .int .i64 n] (WoL wb w i L) (fun _ : Unit => .tuple #[ptr none, .int .i64 116]) (fun _ : Unit => WoL wb w i L) := by
  refine Ct.of (vs := [.pointer (some ⟨wb, 0, none⟩), .int .i64 n]) Try.func42 rfl rfl [(0, .pointer (some ⟨wb, 0, none⟩)), (1, .int .i64 n)] (by repeat (first | exact trivial | refine ⟨rfl, ?_⟩)) ?_
  intro E
  show Hd E 43 _ _ _ _
  refine Hd.seq (fun K1 hK1 => ?_)
  refine Hd.region ?_
  refine Hd.yv (y_assign rfl) ?_
  refine Hd.yv (y_assign rfl) ?_
  refine Hd.nil ?_
  refine Hd.slots [(0, _), (1, _)] ⟨rfl, rfl, trivial⟩ ?_
  refine Hd.toK hK1 ?_
  refine Hd.seq (fun K2 hK2 => ?_)
  refine Hd.block ?_
  refine Hd.seq (fun K3 hK3 => ?_)
  refine Hd.region ?_
  refine Hd.yv (y_move rfl) ?_
  refine Hd.callE rfl fk52 (wnone_ct _ wb w.at w i.rs.length i) (Ent.sep enn) ?_
  intro _
  refine Hd.yv (y_assign rfl) ?_
  refine Hd.nil ?_
  refine Hd.slots [(0, _), (1, _), (6, _)] ⟨rfl, rfl, rfl, trivial⟩ ?_
  refine Hd.toK hK3 ?_
  refine Hd.condF rfl ?_
  refine Hd.seq (fun K4 hK4 => ?_)
  refine Hd.region ?_
  refine Hd.yv (y_move rfl) ?_
  refine Hd.yv (y_lss rfl rfl) ?_
  refine Hd.yv (y_move rfl) ?_
  refine Hd.part (gd := 12) rfl (fun hg3_12 => ?_) (fun hg3_12 => ?_)
  ·
    try simp only [decide_eq_true_eq, decide_eq_false_iff_not, Bool.and_eq_true, Bool.or_eq_true, Bool.and_eq_false_iff, Bool.or_eq_false_iff, Bool.not_eq_true', Bool.not_eq_false', Bool.not_eq_true, Bool.not_eq_false, Int.not_lt, Int.not_le, Decidable.not_not, ne_eq] at hg3_12
    refine Hd.ng rfl rfl rfl ?_
    refine Hd.ng rfl rfl rfl ?_
    refine Hd.ng rfl rfl rfl ?_
    refine Hd.ng rfl rfl rfl ?_
    refine Hd.ng rfl rfl rfl ?_
    refine Hd.ng rfl rfl rfl ?_
    refine Hd.ng rfl rfl rfl ?_
    first | (refine Hd.yv (y_pickT rfl rfl) ?_) | (refine Hd.yv (y_pickF rfl rfl) ?_) | (refine Hd.yv (y_pickb rfl rfl rfl) ?_) | (refine Hd.yv (y_pick rfl rfl rfl) ?_)
    refine Hd.yv (y_move rfl) ?_
    refine Hd.part (gd := 21) rfl (fun hg3_21 => ?_) (fun hg3_21 => ?_)
    ·
      try simp only [decide_eq_true_eq, decide_eq_false_iff_not, Bool.and_eq_true, Bool.or_eq_true, Bool.and_eq_false_iff, Bool.or_eq_false_iff, Bool.not_eq_true', Bool.not_eq_false', Bool.not_eq_true, Bool.not_eq_false, Int.not_lt, Int.not_le, Decidable.not_not, ne_eq] at hg3_21
      refine Hd.ng rfl rfl rfl ?_
      refine Hd.ng rfl rfl rfl ?_
      refine Hd.ng rfl rfl rfl ?_
      refine Hd.ng rfl rfl rfl ?_
      refine Hd.ng rfl rfl rfl ?_
      refine Hd.ng rfl rfl rfl ?_
      refine Hd.ng rfl rfl rfl ?_
      refine Hd.ng rfl rfl rfl ?_
      refine Hd.ng rfl rfl rfl ?_
      refine Hd.ng rfl rfl rfl ?_
      refine Hd.ng rfl rfl rfl ?_
      refine Hd.ng rfl rfl rfl ?_
      refine Hd.ng rfl rfl rfl ?_
      first | (refine Hd.yv (y_pickT rfl rfl) ?_) | (refine Hd.yv (y_pickF rfl rfl) ?_) | (refine Hd.yv (y_pickb rfl rfl rfl) ?_) | (refine Hd.yv (y_pick rfl rfl rfl) ?_)
      refine Hd.yv (y_assign rfl) ?_
      refine Hd.nil ?_
      refine Hd.slots [(0, _), (1, _), (9, _)] ⟨rfl, rfl, rfl, trivial⟩ ?_
      refine Hd.toK hK4 ?_
      refine Hd.cond rfl (fun hc1 => ?_) (fun hc1 => ?_)
      ·
        try simp only [decide_eq_true_eq, decide_eq_false_iff_not, Bool.and_eq_true, Bool.or_eq_true, Bool.and_eq_false_iff, Bool.or_eq_false_iff, Bool.not_eq_true', Bool.not_eq_false', Bool.not_eq_true, Bool.not_eq_false, Int.not_lt, Int.not_le, Decidable.not_not, ne_eq] at hc1
        refine Hd.seq (fun K5 hK5 => ?_)
        refine Hd.region ?_
        refine Hd.yv (y_assign rfl) ?_
        refine Hd.yv (y_assign rfl) ?_
        refine Hd.nil ?_
        refine Hd.slots [(4, _), (5, _)] ⟨rfl, rfl, trivial⟩ ?_
        refine Hd.toK hK5 ?_
        refine Hd.ret ?_
        refine Hd.inBret ?_
        refine Hd.thenRet ?_
        clear hK1 hK2 hK3 hK4 hK5
        exact Hd.ret2 rfl () rfl rfl (by first | rfl | (simp only [*]; done) | (simp [*]; done)) (Ent.sep enn)
      ·
        try simp only [decide_eq_true_eq, decide_eq_false_iff_not, Bool.and_eq_true, Bool.or_eq_true, Bool.and_eq_false_iff, Bool.or_eq_false_iff, Bool.not_eq_true', Bool.not_eq_false', Bool.not_eq_true, Bool.not_eq_false, Int.not_lt, Int.not_le, Decidable.not_not, ne_eq] at hc1
        exfalso; simp at hc1
    ·
      try simp only [decide_eq_true_eq, decide_eq_false_iff_not, Bool.and_eq_true, Bool.or_eq_true, Bool.and_eq_false_iff, Bool.or_eq_false_iff, Bool.not_eq_true', Bool.not_eq_false', Bool.not_eq_true, Bool.not_eq_false, Int.not_lt, Int.not_le, Decidable.not_not, ne_eq] at hg3_21
      exfalso
      first | omega | (simp at hg3_21; done) | (simp at hg3_21; omega)
  ·
    try simp only [decide_eq_true_eq, decide_eq_false_iff_not, Bool.and_eq_true, Bool.or_eq_true, Bool.and_eq_false_iff, Bool.or_eq_false_iff, Bool.not_eq_true', Bool.not_eq_false', Bool.not_eq_true, Bool.not_eq_false, Int.not_lt, Int.not_le, Decidable.not_not, ne_eq] at hg3_12
    refine Hd.yg rfl rfl (y_move rfl) ?_
    refine Hd.yg rfl rfl (y_move rfl) ?_
    refine Hd.yg rfl rfl (y_nilp rfl) ?_
    first | (refine Hd.yg rfl rfl (y_field' (q := 288) (ft := 77) Try.underlying80 rfl sz77 rfl rfl) ?_) | (refine Hd.yg rfl rfl (y_fieldR (q := 288) (ft := 77) Try.underlying80 rfl sz77 rfl rfl) ?_)
    first | (refine Hd.yg rfl rfl (y_load1 ag77 rfl (Rd.pt1 pkk (by (first | exact woT_at (j := 0) (by omega) rfl | rfl)))) ?_) | (refine Hd.yg rfl rfl (y_load1 ag77 rfl (Rd.seg1 pkk (by (first | exact woT_at (j := 0) (by omega) rfl | rfl)))) ?_) | (refine Hd.yg rfl rfl (y_loadR1 ag77 rfl (by (first | exact RdS.own pkk)) (by (first | exact woT_at (j := 0) (by omega) rfl | rfl))) ?_)
    refine Hd.yg rfl rfl (y_len Try.underlying77 rfl) ?_
    refine Hd.yg rfl rfl (y_geq rfl rfl) ?_
    first | (refine Hd.yv (y_pickT rfl rfl) ?_) | (refine Hd.yv (y_pickF rfl rfl) ?_) | (refine Hd.yv (y_pickb rfl rfl rfl) ?_) | (refine Hd.yv (y_pick rfl rfl rfl) ?_)
    refine Hd.yv (y_move rfl) ?_
    refine Hd.part (gd := 21) rfl (fun hg3_21 => ?_) (fun hg3_21 => ?_)
    ·
      try simp only [decide_eq_true_eq, decide_eq_false_iff_not, Bool.and_eq_true, Bool.or_eq_true, Bool.and_eq_false_iff, Bool.or_eq_false_iff, Bool.not_eq_true', Bool.not_eq_false', Bool.not_eq_true, Bool.not_eq_false, Int.not_lt, Int.not_le, Decidable.not_not, ne_eq] at hg3_21
      refine Hd.ng rfl rfl rfl ?_
      refine Hd.ng rfl rfl rfl ?_
      refine Hd.ng rfl rfl rfl ?_
      refine Hd.ng rfl rfl rfl ?_
      refine Hd.ng rfl rfl rfl ?_
      refine Hd.ng rfl rfl rfl ?_
      refine Hd.ng rfl rfl rfl ?_
      refine Hd.ng rfl rfl rfl ?_
      refine Hd.ng rfl rfl rfl ?_
      refine Hd.ng rfl rfl rfl ?_
      refine Hd.ng rfl rfl rfl ?_
      refine Hd.ng rfl rfl rfl ?_
      refine Hd.ng rfl rfl rfl ?_
      first | (refine Hd.yv (y_pickT rfl rfl) ?_) | (refine Hd.yv (y_pickF rfl rfl) ?_) | (refine Hd.yv (y_pickb rfl rfl rfl) ?_) | (refine Hd.yv (y_pick rfl rfl rfl) ?_)
      refine Hd.yv (y_assign rfl) ?_
      refine Hd.nil ?_
      refine Hd.slots [(0, _), (1, _), (9, _)] ⟨rfl, rfl, rfl, trivial⟩ ?_
      refine Hd.toK hK4 ?_
      refine Hd.cond rfl (fun hc1 => ?_) (fun hc1 => ?_)
      ·
        try simp only [decide_eq_true_eq, decide_eq_false_iff_not, Bool.and_eq_true, Bool.or_eq_true, Bool.and_eq_false_iff, Bool.or_eq_false_iff, Bool.not_eq_true', Bool.not_eq_false', Bool.not_eq_true, Bool.not_eq_false, Int.not_lt, Int.not_le, Decidable.not_not, ne_eq] at hc1
        refine Hd.seq (fun K6 hK6 => ?_)
        refine Hd.region ?_
        refine Hd.yv (y_assign rfl) ?_
        refine Hd.yv (y_assign rfl) ?_
        refine Hd.nil ?_
        refine Hd.slots [(4, _), (5, _)] ⟨rfl, rfl, trivial⟩ ?_
        refine Hd.toK hK6 ?_
        refine Hd.ret ?_
        refine Hd.inBret ?_
        refine Hd.thenRet ?_
        clear hK1 hK2 hK3 hK4 hK6
        exact Hd.ret2 rfl () rfl rfl (by first | rfl | (simp only [*]; done) | (simp [*]; done)) (Ent.sep enn)
      ·
        try simp only [decide_eq_true_eq, decide_eq_false_iff_not, Bool.and_eq_true, Bool.or_eq_true, Bool.and_eq_false_iff, Bool.or_eq_false_iff, Bool.not_eq_true', Bool.not_eq_false', Bool.not_eq_true, Bool.not_eq_false, Int.not_lt, Int.not_le, Decidable.not_not, ne_eq] at hc1
        exfalso; simp at hc1
    ·
      try simp only [decide_eq_true_eq, decide_eq_false_iff_not, Bool.and_eq_true, Bool.or_eq_true, Bool.and_eq_false_iff, Bool.or_eq_false_iff, Bool.not_eq_true', Bool.not_eq_false', Bool.not_eq_true, Bool.not_eq_false, Int.not_lt, Int.not_le, Decidable.not_not, ne_eq] at hg3_21
      exfalso
      first | omega | (simp at hg3_21; done) | (simp at hg3_21; omega)
theorem outer_ct (L : List SP) (wb : Nat) (w : WA) (i : WoI) (hw : WOk w) (hrs : i.rs.map Prod.snd = w.ws) (n : Int) :
    Ct Try.prog 42 #[.pointer (some ⟨wb, 0, none⟩), .int .i64 n] (WoL wb w i L) (fun _ : Unit => .tuple #[ptr (outB i w n), .int .i64 (outE w n)]) (fun _ => WoL wb w i L) := by
  have hrl : i.rs.length = w.ws.length := by rw [← hrs, List.length_map]
  by_cases h : n < 0 ∨ (i.rs.length : Int) ≤ n
  · have e := outW_off (w := w) (n := n) (by rw [← hrl]; exact h)
    rw [show outB i w n = none by unfold outB; rw [e]; rfl, show outE w n = 116 by unfold outE; rw [e]; rfl]
    exact outer0_ct L wb w i n h
  · obtain ⟨k, rfl⟩ : ∃ k : Nat, n = (k : Int) := ⟨n.toNat, by omega⟩
    have hk : k < w.ws.length := by omega
    obtain ⟨b, hb⟩ := rs_at hrs (List.getElem?_eq_getElem hk)
    have e := outW_nat (w := w) (n := k) (List.getElem?_eq_getElem hk)
    have := outer1_ct L wb w i hw hrs k b _ hb
    have e1 : outB i w (k : Int) = if (w.ws[k].e 1).what = 2 then some b else none := by
      unfold outB
      rw [e, Int.toNat_natCast, hb]
      by_cases h2 : (w.ws[k].e 1).what = 2
      · rw [if_pos h2, if_pos h2]; rfl
      · rw [if_neg h2, if_neg h2]; rfl
    have e2 : outE w (k : Int) = if (w.ws[k].e 1).what = 2 then 0 else 116 := by
      unfold outE
      rw [e]
      by_cases h2 : (w.ws[k].e 1).what = 2
      · rw [if_pos h2, if_pos h2]; rfl
      · rw [if_neg h2, if_neg h2]; rfl
    rw [e1, e2]
    exact this
theorem outE_no {w : WA} {n : Int} (h : outE w n ≠ 0) : outW w n = none := by
  unfold outE at h
  cases e : outW w n with
  | none => rfl
  | some x => rw [e] at h; exact absurd rfl h
theorem outE_yes {w : WA} {i : WoI} (hrs : i.rs.map Prod.snd = w.ws) {n : Int} (h : outE w n = 0) : ∃ (m b : Nat) (x : WireA), n = (m : Int) ∧ outW w n = some x ∧ w.ws[m]? = some x ∧ i.rs[m]? = some (b, x) ∧ (x.e 1).what = 2 ∧ outB i w n = some b := by
  unfold outE at h
  cases e : outW w n with
  | none => rw [e] at h; exact absurd h (by decide)
  | some x =>
    obtain ⟨h0, hx, h2⟩ := outW_some e
    obtain ⟨b, hb⟩ := rs_at hrs hx
    refine ⟨n.toNat, b, x, by omega, rfl, hx, hb, h2, ?_⟩
    unfold outB
    rw [e, hb]; rfl
set_option maxHeartbeats 2000000 in
theorem wput_ct (L : List SP) (wb : Nat) (w : WA) (n : Int) (ad : Option Addr) (m c : Nat) (bs : List UInt8) (hm : bs.length = m) (hR : RdS L 1 ad m (bsl bs)) (hml : m ≤ 70368744177664) (hmc : m ≤ c) : Ct Try.prog 12 #[.pointer (some ⟨wb, 0, none⟩), .int .i64 n, .slice ad m c] (WorldP wb w :: L) (fun _ : Unit => .tuple #[.int .i64 (putR w n bs).1.1, .int .i64 (putR w n bs).1.2]) (fun _ : Unit => WorldP wb (putR w n bs).2 :: L) := by
  refine Ct.of (vs := [.pointer (some ⟨wb, 0, none⟩), .int .i64 n, .slice ad m c]) Try.func12 rfl rfl [(0, .pointer (some ⟨wb, 0, none⟩)), (1, .int .i64 n), (2, .slice ad m c)] (by repeat (first | exact trivial | refine ⟨rfl, ?_⟩)) ?_
  intro E
  show Hd E 44 _ _ _ _
  refine Hd.world .here (fun i hw hrs => ?_)
  refine Hd.seq (fun K1 hK1 => ?_)
  refine Hd.region ?_
  refine Hd.yv (y_assign rfl) ?_
  refine Hd.yv (y_assign rfl) ?_
  refine Hd.nil ?_
  refine Hd.slots [(0, _), (1, _), (2, _)] ⟨rfl, rfl, rfl, trivial⟩ ?_
  refine Hd.toK hK1 ?_
  refine Hd.seq (fun K2 hK2 => ?_)
  refine Hd.region ?_
  refine Hd.yv (y_move rfl) ?_
  refine Hd.yv (y_move rfl) ?_
  refine Hd.callE rfl fk42 (outer_ct _ wb w i hw hrs n) (Ent.sep enn) ?_
  intro _
  refine Hd.yv (y_move rfl) ?_
  refine Hd.yv (y_to (v' := ptr (outB i w n)) (y_extract rfl rfl) (by rfl)) ?_
  refine Hd.yv (y_to (v' := .int .i64 (outE w n)) (y_extract rfl rfl) (by rfl)) ?_
  refine Hd.yv (y_assign rfl) ?_
  refine Hd.yv (y_assign rfl) ?_
  refine Hd.nil ?_
  refine Hd.slots [(2, _), (8, _), (9, _)] ⟨rfl, rfl, rfl, trivial⟩ ?_
  refine Hd.toK hK2 ?_
  refine Hd.seq (fun K3 hK3 => ?_)
  refine Hd.block ?_
  refine Hd.seq (fun K4 hK4 => ?_)
  refine Hd.region ?_
  refine Hd.yv (y_move rfl) ?_
  refine Hd.yv (y_neq rfl rfl) ?_
  refine Hd.yv (y_assign rfl) ?_
  refine Hd.nil ?_
  refine Hd.slots [(2, _), (8, _), (9, _), (16, _)] ⟨rfl, rfl, rfl, rfl, trivial⟩ ?_
  refine Hd.toK hK4 ?_
  refine Hd.cond rfl (fun hc0 => ?_) (fun hc0 => ?_)
  ·
    try simp only [decide_eq_true_eq, decide_eq_false_iff_not, Bool.and_eq_true, Bool.or_eq_true, Bool.and_eq_false_iff, Bool.or_eq_false_iff, Bool.not_eq_true', Bool.not_eq_false', Bool.not_eq_true, Bool.not_eq_false, Int.not_lt, Int.not_le, Decidable.not_not, ne_eq] at hc0
    refine Hd.seq (fun K5 hK5 => ?_)
    refine Hd.region ?_
    refine Hd.yv (y_move rfl) ?_
    refine Hd.yv (y_assign rfl) ?_
    refine Hd.yv (y_assign rfl) ?_
    refine Hd.nil ?_
    refine Hd.slots [(6, _), (7, _)] ⟨rfl, rfl, trivial⟩ ?_
    refine Hd.toK hK5 ?_
    refine Hd.ret ?_
    refine Hd.inBret ?_
    refine Hd.thenRet ?_
    clear hK1 hK2 hK3 hK4 hK5
    have e := outE_no hc0
    rw [show putR w n bs = ((0, 116), w) by unfold putR; rw [e]]
    exact Hd.ret2 rfl () rfl rfl (by unfold outE; rw [e]; rfl) (Ent.sep (.ex i (.pure ⟨hw, hrs⟩ enn)))
  ·
    try simp only [decide_eq_true_eq, decide_eq_false_iff_not, Bool.and_eq_true, Bool.or_eq_true, Bool.and_eq_false_iff, Bool.or_eq_false_iff, Bool.not_eq_true', Bool.not_eq_false', Bool.not_eq_true, Bool.not_eq_false, Int.not_lt, Int.not_le, Decidable.not_not, ne_eq] at hc0
    obtain ⟨k, b, x, rfl, hox, hx, hb, h2, hob⟩ := outE_yes hrs hc0
    have hwf := hw.wf x (List.mem_of_getElem? hx)
    have hrd : putR w k bs = if x.rs = true then ((0, 115), w) else if (x.e 1).shut = true ∨ (x.e 0).what = 3 then ((0, 114), w) else ((((putN x 1 bs : Nat) : Int), (0 : Int)), w.setW k (putW x 1 bs)) := by
      unfold putR; rw [hox]; rfl
    rw [hob]
    refine Hd.wOut pkk hb ?_
    refine Hd.wire .here 1 (by omega) (fun i2 hi => ?_)
    refine Hd.seq (fun K6 hK6 => ?_)
    refine Hd.region ?_
    refine Hd.yv (y_move rfl) ?_
    refine Hd.yv (y_nilp rfl) ?_
    first | (refine Hd.yv (y_field' (q := 14) (ft := 4) Try.underlying88 rfl sz4 rfl rfl) ?_) | (refine Hd.yv (y_fieldR (q := 14) (ft := 4) Try.underlying88 rfl sz4 rfl rfl) ?_)
    first | (refine Hd.yv (y_load1 ag4 rfl (Rd.pt1 pkk (by (first | rfl)))) ?_) | (refine Hd.yv (y_load1 ag4 rfl (Rd.seg1 pkk (by (first | rfl)))) ?_) | (refine Hd.yv (y_loadR1 ag4 rfl (by (first | exact RdS.own pkk)) (by (first | rfl))) ?_)
    refine Hd.yv (y_assign rfl) ?_
    refine Hd.nil ?_
    refine Hd.slots [(2, _), (8, _), (20, _)] ⟨rfl, rfl, rfl, trivial⟩ ?_
    refine Hd.toK hK6 ?_
    refine Hd.cond rfl (fun hc1 => ?_) (fun hc1 => ?_)
    ·
      try simp only [decide_eq_true_eq, decide_eq_false_iff_not, Bool.and_eq_true, Bool.or_eq_true, Bool.and_eq_false_iff, Bool.or_eq_false_iff, Bool.not_eq_true', Bool.not_eq_false', Bool.not_eq_true, Bool.not_eq_false, Int.not_lt, Int.not_le, Decidable.not_not, ne_eq] at hc1
      refine Hd.seq (fun K7 hK7 => ?_)
      refine Hd.region ?_
      refine Hd.yv (y_assign rfl) ?_
      refine Hd.yv (y_assign rfl) ?_
      refine Hd.nil ?_
      refine Hd.slots [(6, _), (7, _)] ⟨rfl, rfl, trivial⟩ ?_
      refine Hd.toK hK7 ?_
      refine Hd.ret ?_
      refine Hd.inBret ?_
      refine Hd.thenRet ?_
      clear hK1 hK2 hK3 hK4 hK6 hK7
      rw [hrd, if_pos hc1]
      exact Hd.ret2 rfl () rfl rfl rfl (fun q s => world_back (k := 1) hw hrs hb hi (by omega) q (Ent.sep enn q s))
    ·
      try simp only [decide_eq_true_eq, decide_eq_false_iff_not, Bool.and_eq_true, Bool.or_eq_true, Bool.and_eq_false_iff, Bool.or_eq_false_iff, Bool.not_eq_true', Bool.not_eq_false', Bool.not_eq_true, Bool.not_eq_false, Int.not_lt, Int.not_le, Decidable.not_not, ne_eq] at hc1
      rw [if_neg (by rw [hc1]; simp)] at hrd
      refine Hd.seq (fun K8 hK8 => ?_)
      refine Hd.region ?_
      refine Hd.yv (y_move rfl) ?_
      refine Hd.yv (y_nilp rfl) ?_
      first | (refine Hd.yv (y_field' (q := 0) (ft := 86) Try.underlying88 rfl sz86 rfl rfl) ?_) | (refine Hd.yv (y_fieldR (q := 0) (ft := 86) Try.underlying88 rfl sz86 rfl rfl) ?_)
      first | (refine Hd.yv (y_idxA Try.underlying86 sz85 rfl rfl (by first | omega | decide)) ?_) | (refine Hd.yv (y_idxAR Try.underlying86 sz85 rfl rfl (by first | omega | decide)) ?_)
      first | (refine Hd.yv (y_field' (q := 4) (ft := 4) Try.underlying85 rfl sz4 rfl rfl) ?_) | (refine Hd.yv (y_fieldR (q := 4) (ft := 4) Try.underlying85 rfl sz4 rfl rfl) ?_)
      first | (refine Hd.yv (y_load1 ag4 rfl (Rd.pt1 pkk (by (first | rfl)))) ?_) | (refine Hd.yv (y_load1 ag4 rfl (Rd.seg1 pkk (by (first | rfl)))) ?_) | (refine Hd.yv (y_loadR1 ag4 rfl (by (first | exact RdS.own pkk)) (by (first | rfl))) ?_)
      refine Hd.yv (y_move rfl) ?_
      apply Hd.org 8 32 40 [(2, _), (8, _)] rfl ⟨rfl, rfl, trivial⟩
      · intro hg6_32
        try simp only [decide_eq_true_eq, decide_eq_false_iff_not, Bool.and_eq_true, Bool.or_eq_true, Bool.and_eq_false_iff, Bool.or_eq_false_iff, Bool.not_eq_true', Bool.not_eq_false', Bool.not_eq_true, Bool.not_eq_false, Int.not_lt, Int.not_le, Decidable.not_not, ne_eq] at hg6_32
        simp only [List.take]
        refine Hd.ng rfl rfl rfl ?_
        refine Hd.ng rfl rfl rfl ?_
        refine Hd.ng rfl rfl rfl ?_
        refine Hd.ng rfl rfl rfl ?_
        refine Hd.ng rfl rfl rfl ?_
        refine Hd.ng rfl rfl rfl ?_
        refine Hd.ng rfl rfl rfl ?_
        first | (refine Hd.yv (y_pickT rfl rfl) ?_) | (refine Hd.yv (y_pickF rfl rfl) ?_) | (refine Hd.yv (y_pickb rfl rfl rfl) ?_) | (refine Hd.yv (y_pick rfl rfl rfl) ?_)
        refine Hd.nil ?_
        exact Hd.mend (by repeat (first | exact trivial | refine ⟨rfl, ?_⟩)) (Ent.sep enn)
      · intro hg6_32
        try simp only [decide_eq_true_eq, decide_eq_false_iff_not, Bool.and_eq_true, Bool.or_eq_true, Bool.and_eq_false_iff, Bool.or_eq_false_iff, Bool.not_eq_true', Bool.not_eq_false', Bool.not_eq_true, Bool.not_eq_false, Int.not_lt, Int.not_le, Decidable.not_not, ne_eq] at hg6_32
        simp only [List.take]
        refine Hd.yg rfl rfl (y_move rfl) ?_
        refine Hd.yg rfl rfl (y_nilp rfl) ?_
        first | (refine Hd.yg rfl rfl (y_field' (q := 0) (ft := 86) Try.underlying88 rfl sz86 rfl rfl) ?_) | (refine Hd.yg rfl rfl (y_fieldR (q := 0) (ft := 86) Try.underlying88 rfl sz86 rfl rfl) ?_)
        first | (refine Hd.yg rfl rfl (y_idxA Try.underlying86 sz85 rfl rfl (by first | omega | decide)) ?_) | (refine Hd.yg rfl rfl (y_idxAR Try.underlying86 sz85 rfl rfl (by first | omega | decide)) ?_)
        first | (refine Hd.yg rfl rfl (y_field' (q := 0) (ft := 3) Try.underlying85 rfl sz3 rfl rfl) ?_) | (refine Hd.yg rfl rfl (y_fieldR (q := 0) (ft := 3) Try.underlying85 rfl sz3 rfl rfl) ?_)
        first | (refine Hd.yg rfl rfl (y_load1 ag3 rfl (Rd.pt1 pkk (by (first | rfl)))) ?_) | (refine Hd.yg rfl rfl (y_load1 ag3 rfl (Rd.seg1 pkk (by (first | rfl)))) ?_) | (refine Hd.yg rfl rfl (y_loadR1 ag3 rfl (by (first | exact RdS.own pkk)) (by (first | rfl))) ?_)
        first | (refine Hd.yg rfl rfl (y_eqlT rfl rfl) ?_) | (refine Hd.yg rfl rfl (y_eql rfl rfl) ?_)
        first | (refine Hd.yv (y_pickT rfl rfl) ?_) | (refine Hd.yv (y_pickF rfl rfl) ?_) | (refine Hd.yv (y_pickb rfl rfl rfl) ?_) | (refine Hd.yv (y_pick rfl rfl rfl) ?_)
        refine Hd.nil ?_
        exact Hd.mend (by repeat (first | exact trivial | refine ⟨rfl, ?_⟩)) (Ent.sep enn)
      simp only [List.drop]
      refine Hd.yv (y_assign rfl) ?_
      refine Hd.nil ?_
      refine Hd.slots [(2, _), (8, _), (25, _)] ⟨rfl, rfl, rfl, trivial⟩ ?_
      refine Hd.toK hK8 ?_
      refine Hd.cond rfl (fun hc2 => ?_) (fun hc2 => ?_)
      ·
        try simp only [decide_eq_true_eq, decide_eq_false_iff_not, Bool.and_eq_true, Bool.or_eq_true, Bool.and_eq_false_iff, Bool.or_eq_false_iff, Bool.not_eq_true', Bool.not_eq_false', Bool.not_eq_true, Bool.not_eq_false, Int.not_lt, Int.not_le, Decidable.not_not, ne_eq] at hc2
        refine Hd.seq (fun K9 hK9 => ?_)
        refine Hd.region ?_
        refine Hd.yv (y_assign rfl) ?_
        refine Hd.yv (y_assign rfl) ?_
        refine Hd.nil ?_
        refine Hd.slots [(6, _), (7, _)] ⟨rfl, rfl, trivial⟩ ?_
        refine Hd.toK hK9 ?_
        refine Hd.ret ?_
        refine Hd.inBret ?_
        refine Hd.thenRet ?_
        clear hK1 hK2 hK3 hK4 hK6 hK8 hK9
        rw [hrd, if_pos hc2]
        exact Hd.ret2 rfl () rfl rfl rfl (fun q s => world_back (k := 1) hw hrs hb hi (by omega) q (Ent.sep enn q s))
      ·
        try simp only [decide_eq_true_eq, decide_eq_false_iff_not, Bool.and_eq_true, Bool.or_eq_true, Bool.and_eq_false_iff, Bool.or_eq_false_iff, Bool.not_eq_true', Bool.not_eq_false', Bool.not_eq_true, Bool.not_eq_false, Int.not_lt, Int.not_le, Decidable.not_not, ne_eq] at hc2
        rw [if_neg (by rw [hc2.1]; simpa using hc2.2)] at hrd
        refine Hd.skip ?_
        refine Hd.inB ?_
        refine Hd.toK hK3 ?_
        refine Hd.seq (fun K10 hK10 => ?_)
        refine Hd.heap (WireP b x :: WoR wb k w i L) (fun q s => wire_fold (k := 1) hi (by omega) q (Ent.sep enn q s)) ?_
        refine Hd.region ?_
        refine Hd.yv (y_move rfl) ?_
        refine Hd.yv (y_move rfl) ?_
        refine Hd.callE rfl fk43 (put_ct _ b x 1 (by omega) (hwf.ou h2).1 ad m c bs hm ?hD hml hmc) (Ent.sep enn) ?_
        case hD => exact RdS.mono hR (Ent.sep enn)
        intro _
        refine Hd.yv (y_assign rfl) ?_
        refine Hd.yv (y_assign rfl) ?_
        refine Hd.nil ?_
        refine Hd.slots [(6, _), (7, _)] ⟨rfl, rfl, trivial⟩ ?_
        refine Hd.toK hK10 ?_
        refine Hd.ret ?_
        clear hK1 hK2 hK3 hK4 hK6 hK8 hK10
        rw [hrd]
        exact Hd.ret2 rfl () rfl rfl rfl (fun q s => world_fold' hw hrs hb (smW_put hwf (by omega) bs (hwf.ou h2).1) q (Ent.sep enn q s))
end Wo
end Go.Proofs.Ytbfddabjbkohdaa
