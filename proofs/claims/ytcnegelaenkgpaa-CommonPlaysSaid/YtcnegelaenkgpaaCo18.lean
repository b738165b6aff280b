/-
  The document's set of deadlines: find, Cut, Deadline.
-/
import Derived.Test.YtcnegelaenkgpaaCo17
namespace Go.Proofs.Ytcnegelaenkgpaa
set_option linter.unusedSimpArgs false
set_option linter.unusedVariables false
set_option linter.unnecessarySimpa false
open Go.RX Fx Hp
namespace Cm
set_option maxRecDepth 8000
set_option maxHeartbeats 2000000 in
theorem rfind_ct (L : List SP) (b : Nat) (l : List It) (q cm : List Int) (nx : Int) (r : RI) (hl : l.length ≤ 1000000) (id : Int) : Ct Try.prog 80 #[.pointer (some ⟨b, 0, none⟩), .int .i64 id] (RcL b l q cm nx r L) (fun _ : Unit => .int .i64 (idxA id (l.map It.id) 0)) (fun _ : Unit => RcL b l q cm nx r L) := by
  refine Ct.of (vs := [.pointer (some ⟨b, 0, none⟩), .int .i64 id]) Try.func80 rfl rfl [(0, .pointer (some ⟨b, 0, none⟩)), (1, .int .i64 id)] (by repeat (first | exact trivial | refine ⟨rfl, ?_⟩)) ?_
  intro E
  show Hd E 26 _ _ _ _
  refine Hd.seq (fun K1 hK1 => ?_)
  refine Hd.region ?_
  refine Hd.yv (y_assign rfl) ?_
  refine Hd.nil ?_
  refine Hd.slots [(0, _), (1, _)] ⟨rfl, rfl, trivial⟩ ?_
  refine Hd.toK hK1 ?_
  refine Hd.seq (fun K2 hK2 => ?_)
  refine Hd.seq (fun K3 hK3 => ?_)
  refine Hd.region ?_
  refine Hd.yv (y_assign rfl) ?_
  refine Hd.nil ?_
  refine Hd.slots [(0, _), (1, _), (5, _)] ⟨rfl, rfl, rfl, trivial⟩ ?_
  refine Hd.toK hK3 ?_
  refine Hd.block ?_
  refine Hd.loopK (ι := Nat) [(0, _), (1, _)] (fun i => [(5, .int .i64 (i : Int))]) (fun i => pu (i ≤ l.length ∧ id ∉ (l.take i).map It.id) :: RcL b l q cm nx r L) (fun i => l.length - i) 0 (by repeat (first | exact trivial | refine ⟨rfl, ?_⟩)) (by repeat (first | exact trivial | refine ⟨rfl, ?_⟩)) (Ent.sep (.pure ⟨Nat.zero_le _, by simp⟩ enn)) ?_
  intro i
  try dsimp only
  refine Hd.pure (fun hp0 => ?_)
  try dsimp only at hp0
  refine Hd.seq (fun K4 hK4 => ?_)
  refine Hd.seq (fun K5 hK5 => ?_)
  refine Hd.region ?_
  refine Hd.yv (y_move rfl) ?_
  refine Hd.yv (y_move rfl) ?_
  refine Hd.yv (y_nilp rfl) ?_
  first | (refine Hd.yv (y_field' (q := 0) (ft := 22) Try.underlying69 rfl sz22 rfl rfl) ?_) | (refine Hd.yv (y_fieldR (q := 0) (ft := 22) Try.underlying69 rfl sz22 rfl rfl) ?_)
  first | (refine Hd.yv (y_load1 ag22 rfl (Rd.pt1 pkk (by (first | rfl)))) ?_) | (refine Hd.yv (y_load1 ag22 rfl (Rd.seg1 pkk (by (first | rfl)))) ?_) | (refine Hd.yv (y_loadR1 ag22 rfl (by (first | exact RdS.own pkk)) (by (first | rfl))) ?_)
  refine Hd.yv (y_len Try.underlying22 rfl) ?_
  refine Hd.yv (y_lss rfl rfl) ?_
  refine Hd.nil ?_
  refine Hd.slots [(0, _), (1, _), (5, _), (12, _)] ⟨rfl, rfl, rfl, rfl, trivial⟩ ?_
  refine Hd.toK hK5 ?_
  refine Hd.cond rfl (fun hc0 => ?_) (fun hc0 => ?_)
  ·
    try simp only [decide_eq_true_eq, decide_eq_false_iff_not, Bool.and_eq_true, Bool.or_eq_true, Bool.and_eq_false_iff, Bool.or_eq_false_iff, Bool.not_eq_true', Bool.not_eq_false', Bool.not_eq_true, Bool.not_eq_false, Int.not_lt, Int.not_le, Decidable.not_not, ne_eq] at hc0
    have hi : i < l.length := by omega
    have hgi : l[i]? = some (g l i) := g_at hi
    refine Hd.skip ?_
    refine Hd.toK hK4 ?_
    refine Hd.seq (fun K6 hK6 => ?_)
    refine Hd.block ?_
    refine Hd.seq (fun K7 hK7 => ?_)
    refine Hd.region ?_
    refine Hd.yv (y_move rfl) ?_
    refine Hd.yv (y_nilp rfl) ?_
    first | (refine Hd.yv (y_field' (q := 0) (ft := 22) Try.underlying69 rfl sz22 rfl rfl) ?_) | (refine Hd.yv (y_fieldR (q := 0) (ft := 22) Try.underlying69 rfl sz22 rfl rfl) ?_)
    first | (refine Hd.yv (y_load1 ag22 rfl (Rd.pt1 pkk (by (first | rfl)))) ?_) | (refine Hd.yv (y_load1 ag22 rfl (Rd.seg1 pkk (by (first | rfl)))) ?_) | (refine Hd.yv (y_loadR1 ag22 rfl (by (first | exact RdS.own pkk)) (by (first | rfl))) ?_)
    refine Hd.yv (y_move rfl) ?_
    first | (refine Hd.yv (y_idxS Try.underlying22 sz31 rfl rfl (by first | omega | decide)) ?_) | (refine Hd.yv (y_idxR Try.underlying22 sz31 rfl rfl (by first | omega | decide) (by (first | exact RdS.own pkk))) ?_)
    first | (refine Hd.yv (y_field' (q := 0) (ft := 3) Try.underlying31 rfl sz3 rfl rfl) ?_) | (refine Hd.yv (y_fieldR (q := 0) (ft := 3) Try.underlying31 rfl sz3 rfl rfl) ?_)
    refine Hd.yv (y_loadR1 ag3 rfl (RdS.own (ad := r.a1) (us := l.flatMap Hp.encI) pkk) (flat_cells Hp.encI 3 (fun _ => rfl) hgi 0 _ rfl)) ?_
    refine Hd.yv (y_move rfl) ?_
    first | (refine Hd.yv (y_eqlT rfl rfl) ?_) | (refine Hd.yv (y_eql rfl rfl) ?_)
    refine Hd.nil ?_
    refine Hd.slots [(0, _), (1, _), (5, _), (24, _)] ⟨rfl, rfl, rfl, rfl, trivial⟩ ?_
    refine Hd.toK hK7 ?_
    refine Hd.cond rfl (fun hc1 => ?_) (fun hc1 => ?_)
    ·
      try simp only [decide_eq_true_eq, decide_eq_false_iff_not, Bool.and_eq_true, Bool.or_eq_true, Bool.and_eq_false_iff, Bool.or_eq_false_iff, Bool.not_eq_true', Bool.not_eq_false', Bool.not_eq_true, Bool.not_eq_false, Int.not_lt, Int.not_le, Decidable.not_not, ne_eq] at hc1
      refine Hd.seq (fun K8 hK8 => ?_)
      refine Hd.region ?_
      refine Hd.yv (y_move rfl) ?_
      refine Hd.yv (y_assign rfl) ?_
      refine Hd.nil ?_
      refine Hd.slots [(4, _)] ⟨rfl, trivial⟩ ?_
      refine Hd.toK hK8 ?_
      refine Hd.ret ?_
      refine Hd.inBret ?_
      refine Hd.thenRet ?_
      refine Hd.thenRet ?_
      refine Hd.inBret ?_
      refine Hd.thenRet ?_
      clear hK1 hK2 hK3 hK4 hK5 hK6 hK7 hK8
      have e : l.map It.id = (l.take i).map It.id ++ id :: (l.drop (i + 1)).map It.id := by
        conv => lhs; rw [← List.take_append_drop i l]
        have h2 : l.drop i = g l i :: l.drop (i + 1) := by
          obtain ⟨h, e⟩ := List.getElem?_eq_some_iff.1 hgi
          rw [List.drop_eq_getElem_cons h, e]
        rw [h2, List.map_append, List.map_cons, hc1]
      have hlt : ((l.take i).map It.id).length = i := by simp; omega
      exact Hd.ret1 rfl () (by rw [e, idxA_at hp0.2, hlt, Nat.zero_add]; rfl) (Ent.sep enn)
    ·
      try simp only [decide_eq_true_eq, decide_eq_false_iff_not, Bool.and_eq_true, Bool.or_eq_true, Bool.and_eq_false_iff, Bool.or_eq_false_iff, Bool.not_eq_true', Bool.not_eq_false', Bool.not_eq_true, Bool.not_eq_false, Int.not_lt, Int.not_le, Decidable.not_not, ne_eq] at hc1
      refine Hd.skip ?_
      refine Hd.inB ?_
      refine Hd.toK hK6 ?_
      refine Hd.region ?_
      refine Hd.yv (y_move rfl) ?_
      first | (refine Hd.yv (y_addn rfl rfl (by simp only [InK]; omega)) ?_) | (refine Hd.yv (y_add rfl rfl) ?_)
      refine Hd.yv (y_assign rfl) ?_
      refine Hd.nil ?_
      refine Hd.slots [(0, _), (1, _), (5, _)] ⟨rfl, rfl, rfl, trivial⟩ ?_
      clear hK1 hK2 hK3 hK4 hK5 hK6 hK7
      refine Hd.thenN ?_
      exact Hd.again (i + 1) (by first | omega | (simp only; omega) | (simp; omega)) (by repeat (first | exact trivial | refine ⟨rfl, ?_⟩)) (Ent.sep (.pure ⟨hi, by rw [List.take_add_one, hgi]; simp only [Option.toList_some, List.map_append, List.mem_append, not_or]; exact ⟨hp0.2, by simpa using fun e => hc1 e.symm⟩⟩ enn))
  ·
    try simp only [decide_eq_true_eq, decide_eq_false_iff_not, Bool.and_eq_true, Bool.or_eq_true, Bool.and_eq_false_iff, Bool.or_eq_false_iff, Bool.not_eq_true', Bool.not_eq_false', Bool.not_eq_true, Bool.not_eq_false, Int.not_lt, Int.not_le, Decidable.not_not, ne_eq] at hc0
    have hno : id ∉ l.map It.id := by have h := hp0.2; rwa [List.take_of_length_le (by omega)] at h
    refine Hd.exit ?_
    refine Hd.thenExit ?_
    refine Hd.thenExit ?_
    refine Hd.inBexit ?_
    refine Hd.toK hK2 ?_
    refine Hd.seq (fun K9 hK9 => ?_)
    refine Hd.region ?_
    refine Hd.yv (y_assign rfl) ?_
    refine Hd.nil ?_
    refine Hd.slots [(4, _)] ⟨rfl, trivial⟩ ?_
    refine Hd.toK hK9 ?_
    refine Hd.ret ?_
    clear hK1 hK2 hK3 hK4 hK5 hK9
    exact Hd.ret1 rfl () (by rw [idxA_no hno]; rfl) (Ent.sep enn)
theorem split_id {id : Int} : ∀ {l : List It}, id ∈ l.map It.id → ∃ pre x post, l = pre ++ x :: post ∧ x.id = id ∧ ∀ y ∈ pre, y.id ≠ id
  | [], h => by cases h
  | a :: t, h => by
    by_cases e : a.id = id
    · exact ⟨[], a, t, rfl, e, fun y hy => by cases hy⟩
    · have h2 : id ∈ t.map It.id := by
        rcases List.mem_cons.1 h with h | h
        · exact absurd h.symm e
        · exact h
      obtain ⟨pre, x, post, e1, e2, e3⟩ := split_id h2
      refine ⟨a :: pre, x, post, by rw [e1]; rfl, e2, fun y hy => ?_⟩
      rcases List.mem_cons.1 hy with rfl | hy
      · exact e
      · exact e3 y hy
theorem find_isSome' (k : Int) (s : List It) : (findI k s).isSome = true ↔ ∃ y ∈ s, y.id = k := by
  unfold findI; rw [List.find?_isSome]; simp
theorem wrap_u64 (x : Int) : IntKind.u64.wrap x = x % 18446744073709551616 := by simp [IntKind.wrap, IntKind.bits, IntKind.signed]
set_option maxHeartbeats 2000000 in
theorem rdl_ct (L : List SP) (now after : Int) (hn : InK .u64 now) (ha : InK .u64 after) : Ct Try.prog 79 #[.int .u64 now, .int .u64 after] (L) (fun _ : Unit => .int .u64 (dl now after)) (fun _ : Unit => L) := by
  refine Ct.of (vs := [.int .u64 now, .int .u64 after]) Try.func79 rfl rfl [(0, .int .u64 now), (1, .int .u64 after)] (by repeat (first | exact trivial | refine ⟨rfl, ?_⟩)) ?_
  intro E
  show Hd E 15 _ _ _ _
  simp only [InK] at hn ha
  refine Hd.seq (fun K1 hK1 => ?_)
  refine Hd.region ?_
  refine Hd.yv (y_assign rfl) ?_
  refine Hd.nil ?_
  refine Hd.slots [(0, _), (1, _)] ⟨rfl, rfl, trivial⟩ ?_
  refine Hd.toK hK1 ?_
  refine Hd.seq (fun K2 hK2 => ?_)
  refine Hd.seq (fun K3 hK3 => ?_)
  refine Hd.region ?_
  refine Hd.yv (y_move rfl) ?_
  first | (refine Hd.yv (y_eqlT rfl rfl) ?_) | (refine Hd.yv (y_eql rfl rfl) ?_)
  refine Hd.nil ?_
  refine Hd.slots [(0, _), (1, _), (7, _)] ⟨rfl, rfl, rfl, trivial⟩ ?_
  refine Hd.toK hK3 ?_
  refine Hd.cond rfl (fun hc0 => ?_) (fun hc0 => ?_)
  ·
    try simp only [decide_eq_true_eq, decide_eq_false_iff_not, Bool.and_eq_true, Bool.or_eq_true, Bool.and_eq_false_iff, Bool.or_eq_false_iff, Bool.not_eq_true', Bool.not_eq_false', Bool.not_eq_true, Bool.not_eq_false, Int.not_lt, Int.not_le, Decidable.not_not, ne_eq] at hc0
    refine Hd.seq (fun K4 hK4 => ?_)
    refine Hd.region ?_
    refine Hd.yv (y_assign rfl) ?_
    refine Hd.nil ?_
    refine Hd.slots [(4, _)] ⟨rfl, trivial⟩ ?_
    refine Hd.toK hK4 ?_
    refine Hd.ret ?_
    refine Hd.thenRet ?_
    clear hK1 hK2 hK3 hK4
    exact Hd.ret1 rfl () (congrArg (fun z => some (Value.int .u64 z)) (show (18446744073709551615 : Int) = dl now after by unfold dl; split <;> omega)) (Ent.sep enn)
  ·
    try simp only [decide_eq_true_eq, decide_eq_false_iff_not, Bool.and_eq_true, Bool.or_eq_true, Bool.and_eq_false_iff, Bool.or_eq_false_iff, Bool.not_eq_true', Bool.not_eq_false', Bool.not_eq_true, Bool.not_eq_false, Int.not_lt, Int.not_le, Decidable.not_not, ne_eq] at hc0
    refine Hd.skip ?_
    refine Hd.toK hK2 ?_
    refine Hd.seq (fun K5 hK5 => ?_)
    refine Hd.region ?_
    refine Hd.yv (y_move rfl) ?_
    refine Hd.yv (y_move rfl) ?_
    first | (refine Hd.yv (y_addn rfl rfl (by simp only [InK]; omega)) ?_) | (refine Hd.yv (y_add rfl rfl) ?_)
    refine Hd.yv (y_assign rfl) ?_
    refine Hd.nil ?_
    refine Hd.slots [(0, _), (5, _)] ⟨rfl, rfl, trivial⟩ ?_
    refine Hd.toK hK5 ?_
    refine Hd.seq (fun K6 hK6 => ?_)
    refine Hd.seq (fun K7 hK7 => ?_)
    refine Hd.region ?_
    refine Hd.yv (y_move rfl) ?_
    refine Hd.yv (y_move rfl) ?_
    refine Hd.yv (y_lss rfl rfl) ?_
    refine Hd.nil ?_
    refine Hd.slots [(5, _), (13, _)] ⟨rfl, rfl, trivial⟩ ?_
    refine Hd.toK hK7 ?_
    refine Hd.cond rfl (fun hc1 => ?_) (fun hc1 => ?_)
    ·
      try simp only [decide_eq_true_eq, decide_eq_false_iff_not, Bool.and_eq_true, Bool.or_eq_true, Bool.and_eq_false_iff, Bool.or_eq_false_iff, Bool.not_eq_true', Bool.not_eq_false', Bool.not_eq_true, Bool.not_eq_false, Int.not_lt, Int.not_le, Decidable.not_not, ne_eq] at hc1
      refine Hd.seq (fun K8 hK8 => ?_)
      refine Hd.region ?_
      refine Hd.yv (y_assign rfl) ?_
      refine Hd.nil ?_
      refine Hd.slots [(4, _)] ⟨rfl, trivial⟩ ?_
      refine Hd.toK hK8 ?_
      refine Hd.ret ?_
      refine Hd.thenRet ?_
      clear hK1 hK2 hK3 hK5 hK6 hK7 hK8
      exact Hd.ret1 rfl () (congrArg (fun z => some (Value.int .u64 z)) (show (18446744073709551615 : Int) = dl now after by rw [wrap_u64] at hc1; unfold dl; split <;> omega)) (Ent.sep enn)
    ·
      try simp only [decide_eq_true_eq, decide_eq_false_iff_not, Bool.and_eq_true, Bool.or_eq_true, Bool.and_eq_false_iff, Bool.or_eq_false_iff, Bool.not_eq_true', Bool.not_eq_false', Bool.not_eq_true, Bool.not_eq_false, Int.not_lt, Int.not_le, Decidable.not_not, ne_eq] at hc1
      refine Hd.skip ?_
      refine Hd.toK hK6 ?_
      refine Hd.seq (fun K9 hK9 => ?_)
      refine Hd.region ?_
      refine Hd.yv (y_move rfl) ?_
      refine Hd.yv (y_assign rfl) ?_
      refine Hd.nil ?_
      refine Hd.slots [(4, _)] ⟨rfl, trivial⟩ ?_
      refine Hd.toK hK9 ?_
      refine Hd.ret ?_
      clear hK1 hK2 hK3 hK5 hK6 hK7 hK9
      exact Hd.ret1 rfl () (congrArg (fun z => some (Value.int .u64 z)) (show IntKind.u64.wrap (now + after) = dl now after by rw [wrap_u64] at hc1 ⊢; unfold dl; split <;> omega)) (Ent.sep enn)
theorem Rel.cut {qs : List Q} {s l : List It} {q cm : List Int} (h : Rel qs s l q cm) (id : Int) : Rel (cutQ id qs) (remI id s) (remI id l) ((remI id l).map (qV qs)) cm :=
  ⟨h.perm.filter _, List.map_congr_left fun x hx => (qOf_cut (rem_mem.1 hx).2).symm, h.cm.trans (cut_af id qs).symm⟩
set_option maxHeartbeats 2000000 in
theorem rcut_ct (L : List SP) (b : Nat) (qs : List Q) (s : List It) (nx : Int) (hF : HpF s) (id : Int) : Ct Try.prog 48 #[.pointer (some ⟨b, 0, none⟩), .int .i64 id] (RR b qs s nx :: L) (fun _ : Unit => .bool (findI id s).isSome) (fun _ : Unit => RR b (cutQ id qs) (remI id s) nx :: L) := by
  refine Ct.of (vs := [.pointer (some ⟨b, 0, none⟩), .int .i64 id]) Try.func48 rfl rfl [(0, .pointer (some ⟨b, 0, none⟩)), (1, .int .i64 id)] (by repeat (first | exact trivial | refine ⟨rfl, ?_⟩)) ?_
  intro E
  show Hd E 54 _ _ _ _
  refine Hd.exs .here ?_
  rintro ⟨r, l, q, cm⟩
  simp only [List.cons_append, List.nil_append]
  refine Hd.pure (fun hr => ?_)
  have hls : l.length = s.length := hr.perm.length_eq
  have hsl := hF.len
  have hcut := hr.cut id
  refine Hd.seq (fun K1 hK1 => ?_)
  refine Hd.region ?_
  refine Hd.yv (y_assign rfl) ?_
  refine Hd.nil ?_
  refine Hd.slots [(0, _), (1, _)] ⟨rfl, rfl, trivial⟩ ?_
  refine Hd.toK hK1 ?_
  refine Hd.seq (fun K2 hK2 => ?_)
  refine Hd.region ?_
  refine Hd.yv (y_move rfl) ?_
  refine Hd.yv (y_move rfl) ?_
  refine Hd.callE rfl fk80 (rfind_ct L b l q cm nx r (by omega) id) (Ent.sep enn) ?_
  intro _
  refine Hd.yv (y_assign rfl) ?_
  refine Hd.nil ?_
  refine Hd.slots [(0, _), (5, _)] ⟨rfl, rfl, trivial⟩ ?_
  refine Hd.toK hK2 ?_
  refine Hd.seq (fun K3 hK3 => ?_)
  refine Hd.seq (fun K4 hK4 => ?_)
  refine Hd.region ?_
  refine Hd.yv (y_move rfl) ?_
  refine Hd.yv (y_lss rfl rfl) ?_
  refine Hd.nil ?_
  refine Hd.slots [(0, _), (5, _), (13, _)] ⟨rfl, rfl, rfl, trivial⟩ ?_
  refine Hd.toK hK4 ?_
  refine Hd.cond rfl (fun hc0 => ?_) (fun hc0 => ?_)
  ·
    try simp only [decide_eq_true_eq, decide_eq_false_iff_not, Bool.and_eq_true, Bool.or_eq_true, Bool.and_eq_false_iff, Bool.or_eq_false_iff, Bool.not_eq_true', Bool.not_eq_false', Bool.not_eq_true, Bool.not_eq_false, Int.not_lt, Int.not_le, Decidable.not_not, ne_eq] at hc0
    have hno : id ∉ l.map It.id := fun h => by
      have := idxA_mem (a := id) (l := l.map It.id)
      rw [decide_eq_true h, decide_eq_true_iff] at this; omega
    have hn2 : ∀ x ∈ l, x.id ≠ id := fun x hx e => hno (List.mem_map.2 ⟨x, hx, e⟩)
    have hn3 : ∀ x ∈ s, x.id ≠ id := fun x hx => hn2 x (hr.perm.mem_iff.2 hx)
    rw [remI_no hn2, ← hr.q] at hcut
    refine Hd.seq (fun K5 hK5 => ?_)
    refine Hd.region ?_
    refine Hd.yv (y_assign rfl) ?_
    refine Hd.nil ?_
    refine Hd.slots [(4, _)] ⟨rfl, trivial⟩ ?_
    refine Hd.toK hK5 ?_
    refine Hd.ret ?_
    refine Hd.thenRet ?_
    clear hK1 hK2 hK3 hK4 hK5
    rw [(findI_none hn3).1]
    exact Hd.ret1 rfl () rfl (Ent.sep (.ex ⟨r, l, q, cm⟩ (.pure hcut enn)))
  ·
    try simp only [decide_eq_true_eq, decide_eq_false_iff_not, Bool.and_eq_true, Bool.or_eq_true, Bool.and_eq_false_iff, Bool.or_eq_false_iff, Bool.not_eq_true', Bool.not_eq_false', Bool.not_eq_true, Bool.not_eq_false, Int.not_lt, Int.not_le, Decidable.not_not, ne_eq] at hc0
    have hin : id ∈ l.map It.id := Decidable.byContradiction fun h => by rw [idxA_no h] at hc0; omega
    obtain ⟨pre, x, post, hl, hxid, hpre⟩ := split_id hin
    have hnd : (l.map It.id).Nodup := (hr.perm.map It.id).nodup_iff.2 hF.nd
    have hidx : idxA id (l.map It.id) 0 = (pre.length : Int) := by
      rw [hl, List.map_append, List.map_cons, hxid, idxA_at (fun h => by
        obtain ⟨y, hy, e⟩ := List.mem_map.1 h
        exact hpre y hy e), List.length_map, Nat.zero_add]
    rw [hidx]
    have hrem : l.eraseIdx pre.length = remI id l := by
      have hpost : ∀ y ∈ post, y.id ≠ id := fun y hy e => by
        rw [hl, List.map_append, List.nodup_append, List.map_cons, List.nodup_cons] at hnd
        exact hnd.2.1.1 (List.mem_map.2 ⟨y, hy, by rw [e, hxid]⟩)
      have e1 : remI id l = pre ++ post := by
        rw [hl]; unfold remI
        rw [List.filter_append, List.filter_cons, if_neg (by simp [hxid])]
        rw [show pre.filter _ = pre from remI_no hpre, show post.filter _ = post from remI_no hpost]
      rw [e1, hl, List.eraseIdx_append_of_length_le (Nat.le_refl _), Nat.sub_self]; rfl
    have hqe : q.eraseIdx pre.length = (remI id l).map (qV qs) := by rw [hr.q, ← hrem, List.eraseIdx_eq_take_drop_succ, ← List.map_take, ← List.map_drop, ← List.map_append, ← List.eraseIdx_eq_take_drop_succ]
    have hfi : (findI id s).isSome = true := by
      rw [find_isSome']
      exact ⟨x, hr.perm.mem_iff.1 (by rw [hl]; simp), hxid⟩
    have hql : q.length = l.length := by rw [hr.q, List.length_map]
    refine Hd.skip ?_
    refine Hd.toK hK3 ?_
    refine Hd.seq (fun K6 hK6 => ?_)
    refine Hd.region ?_
    refine Hd.yv (y_assign rfl) ?_
    refine Hd.nil ?_
    refine Hd.slots [(0, _), (5, _), (6, _)] ⟨rfl, rfl, rfl, trivial⟩ ?_
    refine Hd.toK hK6 ?_
    refine Hd.seq (fun K7 hK7 => ?_)
    refine Hd.region ?_
    refine Hd.yv (y_assign rfl) ?_
    refine Hd.nil ?_
    refine Hd.slots [(0, _), (5, _), (6, _), (7, _)] ⟨rfl, rfl, rfl, rfl, trivial⟩ ?_
    refine Hd.toK hK7 ?_
    refine Hd.seq (fun K8 hK8 => ?_)
    refine Hd.seq (fun K9 hK9 => ?_)
    refine Hd.region ?_
    refine Hd.yv (y_assign rfl) ?_
    refine Hd.nil ?_
    refine Hd.slots [(0, _), (5, _), (6, _), (7, _), (8, _)] ⟨rfl, rfl, rfl, rfl, rfl, trivial⟩ ?_
    refine Hd.toK hK9 ?_
    refine Hd.block ?_
    refine Hd.ownNil 31 3 none ?_
    refine Hd.ownNil 3 1 none ?_
    refine Hd.loopK (ι := Nat × Option Addr × Nat × Option Addr × Nat) [(0, _), (5, _)] (fun q_ => [(6, .slice q_.2.1 ((l.take q_.1).eraseIdx pre.length).length q_.2.2.1), (7, .slice q_.2.2.2.1 ((q.take q_.1).eraseIdx pre.length).length q_.2.2.2.2), (8, .int .i64 (q_.1 : Int))]) (fun q_ => pu (q_.1 ≤ l.length) :: OwI q_.2.1 ((l.take q_.1).eraseIdx pre.length).length q_.2.2.1 ((l.take q_.1).eraseIdx pre.length) :: ownQ q_.2.2.2.1 ((q.take q_.1).eraseIdx pre.length).length q_.2.2.2.2 ((q.take q_.1).eraseIdx pre.length) :: RcL b l q cm nx r L) (fun q_ => l.length - q_.1) (0, none, 0, none, 0) (by repeat (first | exact trivial | refine ⟨rfl, ?_⟩)) (by repeat (first | exact trivial | refine ⟨rfl, ?_⟩)) (Ent.sep (.pure (by first | omega | (simp; done) | (simp; omega) | exact ⟨by simp, by simp⟩) enn)) ?_
    rintro ⟨i, a6, c6, a7, c7⟩
    try dsimp only
    refine Hd.pure (fun hp0 => ?_)
    try dsimp only at hp0
    refine Hd.seq (fun K10 hK10 => ?_)
    refine Hd.seq (fun K11 hK11 => ?_)
    refine Hd.region ?_
    refine Hd.yv (y_move rfl) ?_
    refine Hd.yv (y_move rfl) ?_
    refine Hd.yv (y_nilp rfl) ?_
    first | (refine Hd.yv (y_field' (q := 0) (ft := 22) Try.underlying69 rfl sz22 rfl rfl) ?_) | (refine Hd.yv (y_fieldR (q := 0) (ft := 22) Try.underlying69 rfl sz22 rfl rfl) ?_)
    first | (refine Hd.yv (y_load1 ag22 rfl (Rd.pt1 pkk (by (first | rfl)))) ?_) | (refine Hd.yv (y_load1 ag22 rfl (Rd.seg1 pkk (by (first | rfl)))) ?_) | (refine Hd.yv (y_loadR1 ag22 rfl (by (first | exact RdS.own pkk)) (by (first | rfl))) ?_)
    refine Hd.yv (y_len Try.underlying22 rfl) ?_
    refine Hd.yv (y_lss rfl rfl) ?_
    refine Hd.nil ?_
    refine Hd.slots [(0, _), (5, _), (6, _), (7, _), (8, _), (20, _)] ⟨rfl, rfl, rfl, rfl, rfl, rfl, trivial⟩ ?_
    refine Hd.toK hK11 ?_
    refine Hd.cond rfl (fun hc1 => ?_) (fun hc1 => ?_)
    ·
      try simp only [decide_eq_true_eq, decide_eq_false_iff_not, Bool.and_eq_true, Bool.or_eq_true, Bool.and_eq_false_iff, Bool.or_eq_false_iff, Bool.not_eq_true', Bool.not_eq_false', Bool.not_eq_true, Bool.not_eq_false, Int.not_lt, Int.not_le, Decidable.not_not, ne_eq] at hc1
      have hi : i < l.length := by omega
      have hgi : l[i]? = some (g l i) := g_at hi
      obtain ⟨y, hqi⟩ : ∃ y, q[i]? = some y := ⟨_, List.getElem?_eq_getElem (by omega)⟩
      have hl6 : ((l.take i).eraseIdx pre.length).length ≤ i := Nat.le_trans (List.length_eraseIdx_le ..) (by rw [List.length_take]; omega)
      have hl7 : ((q.take i).eraseIdx pre.length).length ≤ i := Nat.le_trans (List.length_eraseIdx_le ..) (by rw [List.length_take]; omega)
      refine Hd.skip ?_
      refine Hd.toK hK10 ?_
      refine Hd.seq (fun K12 hK12 => ?_)
      refine Hd.block ?_
      refine Hd.seq (fun K13 hK13 => ?_)
      refine Hd.region ?_
      refine Hd.yv (y_move rfl) ?_
      refine Hd.yv (y_move rfl) ?_
      refine Hd.yv (y_neq rfl rfl) ?_
      refine Hd.nil ?_
      refine Hd.slots [(0, _), (5, _), (6, _), (7, _), (8, _), (25, _)] ⟨rfl, rfl, rfl, rfl, rfl, rfl, trivial⟩ ?_
      refine Hd.toK hK13 ?_
      refine Hd.cond rfl (fun hc2 => ?_) (fun hc2 => ?_)
      ·
        try simp only [decide_eq_true_eq, decide_eq_false_iff_not, Bool.and_eq_true, Bool.or_eq_true, Bool.and_eq_false_iff, Bool.or_eq_false_iff, Bool.not_eq_true', Bool.not_eq_false', Bool.not_eq_true, Bool.not_eq_false, Int.not_lt, Int.not_le, Decidable.not_not, ne_eq] at hc2
        have hne : i ≠ pre.length := by omega
        have he6 := er_ne hgi hne
        have he7 := er_ne hqi hne
        have hn6 : ((l.take i).eraseIdx pre.length).length + 1 = ((l.take (i + 1)).eraseIdx pre.length).length := by rw [he6, List.length_append]; rfl
        have hn7 : ((q.take i).eraseIdx pre.length).length + 1 = ((q.take (i + 1)).eraseIdx pre.length).length := by rw [he7, List.length_append]; rfl
        refine Hd.seq (fun K14 hK14 => ?_)
        refine Hd.region ?_
        refine Hd.yv (y_move rfl) ?_
        refine Hd.yv (y_move rfl) ?_
        refine Hd.yv (y_nilp rfl) ?_
        first | (refine Hd.yv (y_field' (q := 0) (ft := 22) Try.underlying69 rfl sz22 rfl rfl) ?_) | (refine Hd.yv (y_fieldR (q := 0) (ft := 22) Try.underlying69 rfl sz22 rfl rfl) ?_)
        first | (refine Hd.yv (y_load1 ag22 rfl (Rd.pt1 pkk (by (first | rfl)))) ?_) | (refine Hd.yv (y_load1 ag22 rfl (Rd.seg1 pkk (by (first | rfl)))) ?_) | (refine Hd.yv (y_loadR1 ag22 rfl (by (first | exact RdS.own pkk)) (by (first | rfl))) ?_)
        refine Hd.yv (y_move rfl) ?_
        first | (refine Hd.yv (y_idxS Try.underlying22 sz31 rfl rfl (by first | omega | decide)) ?_) | (refine Hd.yv (y_idxR Try.underlying22 sz31 rfl rfl (by first | omega | decide) (by (first | exact RdS.own pkk))) ?_)
        refine Hd.yv (y_loadRn (vs := [_, _, _]) ag31 rfl (RdS.own (ad := r.a1) (us := l.flatMap Hp.encI) pkk) (flat_cells Hp.encI 3 (fun _ => rfl) hgi) (by exact sz31) (by simp)) ?_
        refine Hd.bslice (vs := [(0, _)]) rfl (by first | exact bs48_34 .. | kernel_rfl) (fun b34 => ?_)
        refine Hd.append Try.underlying22 ty31 rfl rfl rfl pkk (by first | exact RdS.rd (Rd.pt pkk (fun j v e => by simpa using e)) rfl | (first | exact RdS.own pkk)) (by first | (simp [Value.oneCell']; done) | assumption) (by first | (simp only [maxLen]; omega) | assumption) (by omega) (fun ad35 cap35 => ?_)
        refine Hd.yv (y_assign rfl) ?_
        refine Hd.nil ?_
        refine Hd.slots [(0, _), (5, _), (6, _), (7, _), (8, _)] ⟨rfl, rfl, rfl, rfl, rfl, trivial⟩ ?_
        refine Hd.toK hK14 ?_
        refine Hd.region ?_
        refine Hd.yv (y_move rfl) ?_
        refine Hd.yv (y_move rfl) ?_
        refine Hd.yv (y_nilp rfl) ?_
        first | (refine Hd.yv (y_field' (q := 1) (ft := 67) Try.underlying69 rfl sz67 rfl rfl) ?_) | (refine Hd.yv (y_fieldR (q := 1) (ft := 67) Try.underlying69 rfl sz67 rfl rfl) ?_)
        first | (refine Hd.yv (y_load1 ag67 rfl (Rd.pt1 pkk (by (first | rfl)))) ?_) | (refine Hd.yv (y_load1 ag67 rfl (Rd.seg1 pkk (by (first | rfl)))) ?_) | (refine Hd.yv (y_loadR1 ag67 rfl (by (first | exact RdS.own pkk)) (by (first | rfl))) ?_)
        refine Hd.yv (y_move rfl) ?_
        first | (refine Hd.yv (y_idxS Try.underlying67 sz3 rfl rfl (by first | omega | decide)) ?_) | (refine Hd.yv (y_idxR Try.underlying67 sz3 rfl rfl (by first | omega | decide) (by (first | exact RdS.own pkk))) ?_)
        refine Hd.yv (y_loadR1 ag3 rfl (RdS.own (ad := r.a2) (us := eI q) pkk) (int_at hqi)) ?_
        refine Hd.bslice (vs := [(0, _)]) rfl (by first | exact bs48_44 .. | kernel_rfl) (fun b44 => ?_)
        refine Hd.append Try.underlying67 ty3 rfl rfl rfl pkk (by first | exact RdS.rd (Rd.pt pkk (fun j v e => by simpa using e)) rfl | (first | exact RdS.own pkk)) (by first | (simp [Value.oneCell']; done) | assumption) (by first | (simp only [maxLen]; omega) | assumption) (by omega) (fun ad45 cap45 => ?_)
        refine Hd.yv (y_assign rfl) ?_
        refine Hd.nil ?_
        refine Hd.slots [(0, _), (5, _), (6, _), (7, _), (8, _)] ⟨rfl, rfl, rfl, rfl, rfl, trivial⟩ ?_
        refine Hd.inB ?_
        refine Hd.toK hK12 ?_
        refine Hd.region ?_
        refine Hd.yv (y_move rfl) ?_
        first | (refine Hd.yv (y_addn rfl rfl (by simp only [InK]; omega)) ?_) | (refine Hd.yv (y_add rfl rfl) ?_)
        refine Hd.yv (y_assign rfl) ?_
        refine Hd.nil ?_
        refine Hd.slots [(0, _), (5, _), (6, _), (7, _), (8, _)] ⟨rfl, rfl, rfl, rfl, rfl, trivial⟩ ?_
        clear hK1 hK2 hK3 hK4 hK6 hK7 hK8 hK9 hK10 hK11 hK12 hK13 hK14
        refine Hd.thenN ?_
        rw [hn6, hn7]; refine Hd.heap (OwI ad35 ((l.take (i + 1)).eraseIdx pre.length).length cap35 ((l.take (i + 1)).eraseIdx pre.length) :: ownQ ad45 ((q.take (i + 1)).eraseIdx pre.length).length cap45 ((q.take (i + 1)).eraseIdx pre.length) :: RcL b l q cm nx r L) (Ent.sep (.eq pkk (own_eq3 rfl rfl (by rw [he6, List.flatMap_append]; rfl)) (.eq pkk (own_eq3 rfl rfl (by rw [he7]; simp [eI])) enn))) ?_
        exact Hd.again (i + 1, ad35, cap35, ad45, cap45) (by first | omega | (simp only; omega) | (simp; omega)) (by repeat (first | exact trivial | refine ⟨rfl, ?_⟩)) (Ent.sep (.pure (by first | omega | (simp; done) | (simp; omega) | (dsimp only; omega)) enn))
      ·
        try simp only [decide_eq_true_eq, decide_eq_false_iff_not, Bool.and_eq_true, Bool.or_eq_true, Bool.and_eq_false_iff, Bool.or_eq_false_iff, Bool.not_eq_true', Bool.not_eq_false', Bool.not_eq_true, Bool.not_eq_false, Int.not_lt, Int.not_le, Decidable.not_not, ne_eq] at hc2
        have hie : i = pre.length := by omega
        have he6 : (l.take (i + 1)).eraseIdx pre.length = (l.take i).eraseIdx pre.length := by rw [← hie]; exact er_eq hgi
        have he7 : (q.take (i + 1)).eraseIdx pre.length = (q.take i).eraseIdx pre.length := by rw [← hie]; exact er_eq hqi
        refine Hd.skip ?_
        refine Hd.inB ?_
        refine Hd.toK hK12 ?_
        refine Hd.region ?_
        refine Hd.yv (y_move rfl) ?_
        first | (refine Hd.yv (y_addn rfl rfl (by simp only [InK]; omega)) ?_) | (refine Hd.yv (y_add rfl rfl) ?_)
        refine Hd.yv (y_assign rfl) ?_
        refine Hd.nil ?_
        refine Hd.slots [(0, _), (5, _), (6, _), (7, _), (8, _)] ⟨rfl, rfl, rfl, rfl, rfl, trivial⟩ ?_
        clear hK1 hK2 hK3 hK4 hK6 hK7 hK8 hK9 hK10 hK11 hK12 hK13
        refine Hd.thenN ?_
        rw [← he6, ← he7]
        exact Hd.again (i + 1, a6, c6, a7, c7) (by first | omega | (simp only; omega) | (simp; omega)) (by repeat (first | exact trivial | refine ⟨rfl, ?_⟩)) (Ent.sep (.pure (by first | omega | (simp; done) | (simp; omega) | (dsimp only; omega)) enn))
    ·
      try simp only [decide_eq_true_eq, decide_eq_false_iff_not, Bool.and_eq_true, Bool.or_eq_true, Bool.and_eq_false_iff, Bool.or_eq_false_iff, Bool.not_eq_true', Bool.not_eq_false', Bool.not_eq_true, Bool.not_eq_false, Int.not_lt, Int.not_le, Decidable.not_not, ne_eq] at hc1
      have hi : i = l.length := by omega
      have h6 : (l.take i).eraseIdx pre.length = remI id l := by rw [hi, List.take_length, hrem]
      have h7 : (q.take i).eraseIdx pre.length = (remI id l).map (qV qs) := by rw [hi, ← hql, List.take_length, hqe]
      rw [h6, h7]
      refine Hd.exit ?_
      refine Hd.thenExit ?_
      refine Hd.thenExit ?_
      refine Hd.inBexit ?_
      refine Hd.toK hK8 ?_
      refine Hd.seq (fun K15 hK15 => ?_)
      refine Hd.region ?_
      refine Hd.yv (y_move rfl) ?_
      refine Hd.yv (y_move rfl) ?_
      refine Hd.yv (y_nilp rfl) ?_
      first | (refine Hd.yv (y_field' (q := 0) (ft := 22) Try.underlying69 rfl sz22 rfl rfl) ?_) | (refine Hd.yv (y_fieldR (q := 0) (ft := 22) Try.underlying69 rfl sz22 rfl rfl) ?_)
      first | (refine Hd.store1 sz22 rfl rfl rfl pkk (by first | decide | (simp; done) | (simp; omega)) ?_) | (refine Hd.storeG1 sz22 rfl rfl rfl pkk (by first | decide | (simp; done) | (simp; omega)) ?_) | (refine Hd.storeO1 sz22 rfl rfl rfl pkk (by first | omega | (simp; done) | (simp; omega)) ?_)
      try simp only [List.set_cons_zero, List.set_cons_succ]
      refine Hd.nil ?_
      refine Hd.slots [(0, _), (7, _)] ⟨rfl, rfl, trivial⟩ ?_
      refine Hd.toK hK15 ?_
      refine Hd.seq (fun K16 hK16 => ?_)
      refine Hd.region ?_
      refine Hd.yv (y_move rfl) ?_
      refine Hd.yv (y_move rfl) ?_
      refine Hd.yv (y_nilp rfl) ?_
      first | (refine Hd.yv (y_field' (q := 1) (ft := 67) Try.underlying69 rfl sz67 rfl rfl) ?_) | (refine Hd.yv (y_fieldR (q := 1) (ft := 67) Try.underlying69 rfl sz67 rfl rfl) ?_)
      first | (refine Hd.store1 sz67 rfl rfl rfl pkk (by first | decide | (simp; done) | (simp; omega)) ?_) | (refine Hd.storeG1 sz67 rfl rfl rfl pkk (by first | decide | (simp; done) | (simp; omega)) ?_) | (refine Hd.storeO1 sz67 rfl rfl rfl pkk (by first | omega | (simp; done) | (simp; omega)) ?_)
      try simp only [List.set_cons_zero, List.set_cons_succ]
      refine Hd.nil ?_
      refine Hd.slots [] trivial ?_
      refine Hd.toK hK16 ?_
      refine Hd.seq (fun K17 hK17 => ?_)
      refine Hd.region ?_
      refine Hd.yv (y_assign rfl) ?_
      refine Hd.nil ?_
      refine Hd.slots [(4, _)] ⟨rfl, trivial⟩ ?_
      refine Hd.toK hK17 ?_
      refine Hd.ret ?_
      clear hK1 hK2 hK3 hK4 hK6 hK7 hK8 hK9 hK10 hK11 hK15 hK16 hK17
      rw [hfi]
      exact Hd.ret1 rfl () rfl (Ent.sep (.ex ⟨{ r with a1 := a6, c1 := c6, a2 := a7, c2 := c7 }, remI id l, (remI id l).map (qV qs), cm⟩ (.pure hcut (.eq pkk (pt_eq (by rfl)) enn))))
end Cm
end Go.Proofs.Ytcnegelaenkgpaa
