/-
  The document's set of deadlines: Add.
-/
import Derived.Test.YtcnegelaenkgpaaCo18
namespace Go.Proofs.Ytcnegelaenkgpaa
set_option linter.unusedSimpArgs false
set_option linter.unusedVariables false
set_option linter.unnecessarySimpa false
open Go.RX Fx Hp
namespace Cm
set_option maxRecDepth 8000
theorem qOf_put {a : Int} {x : It} {k : Int} (h : k ≠ x.id) : ∀ {qs : List Q} {i : Nat}, qOf k (putQ a x qs) i = qOf k qs i
  | [], _ => rfl
  | q :: t, i => by
    unfold putQ
    split
    · show (if (q.l ++ [x]).any _ then _ else _) = (if _ then _ else _)
      have : (q.l ++ [x]).any (fun y => y.id == k) = q.l.any (fun y => y.id == k) := by
        rw [List.any_append]
        simp [Ne.symm h]
      rw [this]
    · show (if _ then _ else qOf k (putQ a x t) (i + 1)) = (if _ then _ else _)
      rw [qOf_put h]
theorem Ok.mem_of_qOf {qs : List Q} {s hs : List It} {nx : Int} {f : MF} (h : Ok qs s nx hs f) {y : It} (hy : y ∈ s) {j : Nat} (e : qOf y.id qs 0 = (j : Int)) : ∃ q, qs[j]? = some q ∧ y ∈ q.l := by
  by_cases hf : (f y.id).isSome = true
  · obtain ⟨j', q, x', hj, hx', e2, _, _⟩ := h.inq hf
    have hxy := h.uniq (h.sub q (List.mem_of_getElem? hj) x' hx') hy e2
    subst hxy
    have := h.qOf_eq hj hx'
    rw [e] at this
    obtain rfl : j = j' := by omega
    exact ⟨q, hj, hx'⟩
  · exfalso
    have hn : f y.id = none := by cases hh : f y.id with | none => rfl | some v => rw [hh] at hf; exact absurd rfl hf
    have := qOf_no (id := y.id) (qs := qs) (i := 0) fun q hq z hz e2 => by
      obtain ⟨i, hi, e3⟩ := List.getElem_of_mem hq
      have := h.fat i q (by rw [List.getElem?_eq_getElem hi, e3]) z hz
      rw [e2, hn] at this; cases this
    omega
/-- which queue the reference finds -/
theorem put_new {qs : List Q} {s hs l : List It} {nx : Int} {f : MF} (h : Ok qs s nx hs f) (hl : l.Perm s) {a : Int} {x : It} (hno : ∀ y ∈ s, y.id ≠ x.id) {v w : Int} (hv : (v = -1 ∧ a ∉ qs.map Q.af) ∨ ∃ j : Nat, v = j ∧ (qs.map Q.af)[j]? = some a)
    (hw : (w = -1 ∧ (v = -1 ∨ ∃ y ∈ l, qV qs y = v ∧ x.at_ < y.at_)) ∨ (w = v ∧ ∀ y ∈ l, qV qs y = v → y.at_ ≤ x.at_)) : qOf x.id (putQ a x qs) 0 = w := by
  have hnq : ∀ q ∈ qs, ∀ y ∈ q.l, y.id ≠ x.id := fun q hq y hy => hno y (h.sub q hq y hy)
  have nofit : (∀ q ∈ qs, fits a x.at_ q = false) → qOf x.id (putQ a x qs) 0 = -1 := fun hf => by rw [putQ_no hf]; exact qOf_no hnq
  rcases hv with ⟨rfl, ha⟩ | ⟨j, rfl, hj⟩
  · have hw1 : w = -1 := by rcases hw with h | h <;> exact h.1
    rw [hw1]
    refine nofit fun q hq => ?_
    have : q.af ≠ a := fun e => ha (List.mem_map.2 ⟨q, hq, e⟩)
    unfold fits; simp [this]
  · obtain ⟨q, hq, hqa⟩ : ∃ q, qs[j]? = some q ∧ q.af = a := by
      rw [List.getElem?_map] at hj
      cases hh : qs[j]? with
      | none => rw [hh] at hj; cases hj
      | some q => rw [hh] at hj; exact ⟨q, rfl, Option.some.inj hj⟩
    have hun : ∀ k q', qs[k]? = some q' → q'.af = a → k = j := fun k q' hk e => by
      have hkl := (List.getElem?_eq_some_iff.1 hk).1
      have hjl := (List.getElem?_eq_some_iff.1 hq).1
      have h1 : (qs.map Q.af)[k]? = (qs.map Q.af)[j]? := by rw [List.getElem?_map, List.getElem?_map, hk, hq]; simp [e, hqa]
      exact (List.getElem?_inj (by simpa using hkl) h.qd).1 h1
    have hoth : ∀ q' ∈ qs.take j, fits a x.at_ q' = false := fun q' h' => by
      obtain ⟨k, hk, e⟩ := List.getElem_of_mem h'
      have hk2 : k < j := by simp at hk; omega
      have hk3 : qs[k]? = some q' := by
        have : (qs.take j)[k]? = some q' := by rw [List.getElem?_eq_getElem hk, e]
        rwa [List.getElem?_take_of_lt hk2] at this
      have : q'.af ≠ a := fun e2 => by have := hun k q' hk3 e2; omega
      unfold fits; simp [this]
    rcases hw with ⟨hw1, hw2 | ⟨y, hy, hyq, hlt⟩⟩ | ⟨rfl, hall⟩
    · omega
    · rw [hw1]
      obtain ⟨q2, hq2, hym⟩ := h.mem_of_qOf (hl.mem_iff.1 hy) hyq
      rw [hq] at hq2; obtain rfl := Option.some.inj hq2
      refine nofit fun q' hq' => ?_
      obtain ⟨k, hk, e⟩ := List.getElem_of_mem hq'
      by_cases e2 : q'.af = a
      · have := hun k q' (by rw [List.getElem?_eq_getElem hk, e]) e2
        subst this
        rw [List.getElem?_eq_getElem hk, e] at hq; obtain rfl := Option.some.inj hq
        unfold fits
        rw [Bool.and_eq_false_iff]; right
        rw [List.all_eq_false]
        exact ⟨y, hym, by simp; omega⟩
      · unfold fits; simp [e2]
    · have hfit : fits a x.at_ q = true := by
        unfold fits
        simp only [Bool.and_eq_true, decide_eq_true_eq, List.all_eq_true]
        exact ⟨hqa, fun y hy => hall y (hl.mem_iff.2 (h.sub q (List.mem_of_getElem? hq) y hy)) (h.qOf_eq hq hy)⟩
      have hjl := (List.getElem?_eq_some_iff.1 hq).1
      rw [putQ_at hq hfit hoth]
      have := qOf_at (id := x.id) (qs := qs.set j ⟨q.af, q.l ++ [x]⟩) (i := 0) (j := j) (List.getElem?_set_self hjl) ⟨x, by simp, rfl⟩ fun k q' hk hk2 y hy => by
        rw [List.getElem?_set_ne (by omega)] at hk2
        exact hnq q' (List.mem_of_getElem? hk2) y hy
      rwa [Nat.zero_add] at this
set_option maxHeartbeats 2000000 in
theorem radd_ct (L : List SP) (b : Nat) (qs : List Q) (s : List It) (nx : Int) (hc : CoF qs s nx) (hc1 : ∀ id, CoF (cutQ id qs) (remI id s) nx) (hs : s.length < 900000) (hnx : nx < 1000000) (id now after : Int) (hn : InK .u64 now) (ha : InK .u64 after) : Ct Try.prog 47 #[.pointer (some ⟨b, 0, none⟩), .int .i64 id, .int .u64 now, .int .u64 after] (RR b qs s nx :: L) (fun _ : Unit => .int .i64 (addV id)) (fun _ : Unit => RR b (addQ qs id now after nx) (addS s id now after nx) (addN id nx) :: L) := by
  refine Ct.of (vs := [.pointer (some ⟨b, 0, none⟩), .int .i64 id, .int .u64 now, .int .u64 after]) Try.func47 rfl rfl [(0, .pointer (some ⟨b, 0, none⟩)), (1, .int .i64 id), (2, .int .u64 now), (3, .int .u64 after)] (by repeat (first | exact trivial | refine ⟨rfl, ?_⟩)) ?_
  intro E
  show Hd E 108 _ _ _ _
  refine Hd.seq (fun K1 hK1 => ?_)
  refine Hd.region ?_
  refine Hd.yv (y_assign rfl) ?_
  refine Hd.nil ?_
  refine Hd.slots [(0, _), (1, _), (2, _), (3, _)] ⟨rfl, rfl, rfl, rfl, trivial⟩ ?_
  refine Hd.toK hK1 ?_
  refine Hd.seq (fun K2 hK2 => ?_)
  refine Hd.seq (fun K3 hK3 => ?_)
  refine Hd.region ?_
  refine Hd.yv (y_move rfl) ?_
  refine Hd.yv (y_lss rfl rfl) ?_
  refine Hd.nil ?_
  refine Hd.slots [(0, _), (1, _), (2, _), (3, _), (14, _)] ⟨rfl, rfl, rfl, rfl, rfl, trivial⟩ ?_
  refine Hd.toK hK3 ?_
  refine Hd.cond rfl (fun hc0 => ?_) (fun hc0 => ?_)
  ·
    try simp only [decide_eq_true_eq, decide_eq_false_iff_not, Bool.and_eq_true, Bool.or_eq_true, Bool.and_eq_false_iff, Bool.or_eq_false_iff, Bool.not_eq_true', Bool.not_eq_false', Bool.not_eq_true, Bool.not_eq_false, Int.not_lt, Int.not_le, Decidable.not_not, ne_eq] at hc0
    refine Hd.seq (fun K4 hK4 => ?_)
    refine Hd.region ?_
    refine Hd.yv (y_assign rfl) ?_
    refine Hd.nil ?_
    refine Hd.slots [(8, _)] ⟨rfl, trivial⟩ ?_
    refine Hd.toK hK4 ?_
    refine Hd.ret ?_
    refine Hd.thenRet ?_
    clear hK1 hK2 hK3 hK4
    have hid : id < 0 := hc0
    rw [show addV id = 2 by unfold addV; rw [if_pos hid], show addQ qs id now after nx = qs by unfold addQ; rw [if_pos hid], show addS s id now after nx = s by unfold addS; rw [if_pos hid], show addN id nx = nx by unfold addN; rw [if_pos hid]]
    exact Hd.ret1 rfl () rfl (Ent.sep enn)
  ·
    try simp only [decide_eq_true_eq, decide_eq_false_iff_not, Bool.and_eq_true, Bool.or_eq_true, Bool.and_eq_false_iff, Bool.or_eq_false_iff, Bool.not_eq_true', Bool.not_eq_false', Bool.not_eq_true, Bool.not_eq_false, Int.not_lt, Int.not_le, Decidable.not_not, ne_eq] at hc0
    have hid : 0 ≤ id := by omega
    refine Hd.skip ?_
    refine Hd.toK hK2 ?_
    refine Hd.seq (fun K5 hK5 => ?_)
    refine Hd.region ?_
    refine Hd.yv (y_move rfl) ?_
    refine Hd.yv (y_move rfl) ?_
    refine Hd.callE rfl fk48 (rcut_ct L b qs s nx hc.hF id) (Ent.sep enn) ?_
    intro _
    refine Hd.nil ?_
    refine Hd.slots [(0, _), (1, _), (2, _), (3, _)] ⟨rfl, rfl, rfl, rfl, trivial⟩ ?_
    refine Hd.toK hK5 ?_
    obtain ⟨hs0, f, hok⟩ := hc1 id
    have hs2 : (remI id s).length ≤ s.length := List.length_filter_le _ _
    have hnx0 := hok.nx0
    refine Hd.exs .here ?_
    rintro ⟨r, l, q, cm⟩
    simp only [List.cons_append, List.nil_append]
    refine Hd.pure (fun hr => ?_)
    have hls : l.length = (remI id s).length := hr.perm.length_eq
    have hql : q.length = l.length := by rw [hr.q, List.length_map]
    have hcl : cm.length ≤ 32 := by rw [hr.cm, List.length_map]; exact hok.ql
    refine Hd.cutK (ι := Nat) [(0, _), (3, _)] (fun b9 => [(9, .pointer (some ⟨b9, 0, none⟩))]) (fun b9 => pt b9 (Hp.encI (addX id now after nx)) 31 :: RcL b l q cm nx r L) ?_ ?_ ⟨rfl, rfl, trivial⟩
    ·
      refine Hd.drawsH ([RcH b l.length q.length cm.length r nx]) (fun j => !([10].contains j)) mixed ?_
      simp only [List.length, Nat.zero_add, Nat.reduceAdd]
      refine Hd.takeH 0 rfl (by kernel_rfl) (by kernel_rfl) (by kernel_rfl) (by kernel_rfl) (y_move rfl) (fun _ _ => rfl) (Ent.sep enn) ?_
      refine Hd.takeH 1 rfl (by kernel_rfl) (by kernel_rfl) (by kernel_rfl) (by kernel_rfl) (y_move rfl) (fun _ _ => rfl) (Ent.sep enn) ?_
      refine Hd.takeH 2 rfl (by kernel_rfl) (by kernel_rfl) (by kernel_rfl) (by kernel_rfl) (y_move rfl) (fun _ _ => rfl) (Ent.sep enn) ?_
      refine Hd.takeH 4 rfl (by kernel_rfl) (by kernel_rfl) (by kernel_rfl) (by kernel_rfl) (y_move rfl) (fun _ _ => rfl) (Ent.sep enn) ?_
      refine Hd.takeH 5 rfl (by kernel_rfl) (by kernel_rfl) (by kernel_rfl) (by kernel_rfl) (y_nilp rfl) (fun _ _ => rfl) (Ent.sep enn) ?_
      first | (refine Hd.takeH 6 rfl (by kernel_rfl) (by kernel_rfl) (by kernel_rfl) (by kernel_rfl) (y_field' (q := 3) (ft := 29) Try.underlying69 rfl sz29 rfl rfl) (fun _ _ => rfl) (Ent.sep enn) ?_) | (refine Hd.takeH 6 rfl (by kernel_rfl) (by kernel_rfl) (by kernel_rfl) (by kernel_rfl) (y_fieldR (q := 3) (ft := 29) Try.underlying69 rfl sz29 rfl rfl) (fun _ _ => rfl) (Ent.sep enn) ?_)
      first | (refine Hd.takeH 7 rfl (by kernel_rfl) (by kernel_rfl) (by kernel_rfl) (by kernel_rfl) (y_load1 ag29 rfl (Rd.pt1 pkk (by (first | rfl)))) (fun _ _ => rfl) (Ent.sep enn) ?_) | (refine Hd.takeH 7 rfl (by kernel_rfl) (by kernel_rfl) (by kernel_rfl) (by kernel_rfl) (y_load1 ag29 rfl (Rd.seg1 pkk (by (first | rfl)))) (fun _ _ => rfl) (Ent.sep enn) ?_) | (refine Hd.takeH 7 rfl (by kernel_rfl) (by kernel_rfl) (by kernel_rfl) (by kernel_rfl) (y_loadR1 ag29 rfl (by (first | exact RdS.own pkk)) (by (first | rfl))) (fun _ _ => rfl) (Ent.sep enn) ?_)
      refine Hd.eitherH 3 9 rfl rfl (by kernel_rfl) ?_ ?_
      ·
        refine Hd.callE rfl fk79 (rdl_ct _ now after hn ha) (Ent.sep enn) ?_
        intro _
        refine Hd.nil ?_
        refine Hd.thenN ?_
        refine Hd.heldK (J := (fun j => !([10].contains j))) (i := 3) (Ent.sep enn) ?_
        refine Hd.takeH 8 rfl (by kernel_rfl) (by kernel_rfl) (by kernel_rfl) (by kernel_rfl) (y_build (vs := [(0, _), (1, _), (2, _)]) rfl (by first | exact bd47_26 .. | kernel_rfl)) (fun _ _ => rfl) (Ent.sep enn) ?_
        refine Hd.onlyH 9 rfl (by kernel_rfl) ?_
        refine Hd.alloc zr31 (fun b9 => ?_)
        refine Hd.nil ?_
        refine Hd.thenN ?_
        refine Hd.heldK (J := (fun j => !([10].contains j))) (i := 9) (Ent.sep enn) ?_
        refine Hd.onlyH 10 rfl (by kernel_rfl) ?_
        refine Hd.storeA (us := Hp.encI (addX id now after nx)) sz31 rfl rfl rfl (encI_one _) pkk (by exact rfl) ?_
        refine Hd.nil ?_
        refine Hd.thenN ?_
        refine Hd.heldN (J := (fun j => !([10].contains j))) (i := 10) rfl ?_
        refine Hd.endH (by kernel_rfl) ?_
        refine Hd.slots [(0, _), (3, _), (9, _)] ⟨rfl, rfl, rfl, trivial⟩ ?_
        clear hK1 hK2 hK3 hK5
        refine Hd.thenN ?_
        exact Hd.meet b9 (by repeat (first | exact trivial | refine ⟨rfl, ?_⟩)) (Ent.sep enn)
      ·
        refine Hd.alloc zr31 (fun b9 => ?_)
        refine Hd.nil ?_
        refine Hd.thenN ?_
        refine Hd.heldK (J := (fun j => !([10].contains j))) (i := 9) (Ent.sep enn) ?_
        refine Hd.onlyH 3 rfl (by kernel_rfl) ?_
        refine Hd.callE rfl fk79 (rdl_ct _ now after hn ha) (Ent.sep enn) ?_
        intro _
        refine Hd.nil ?_
        refine Hd.thenN ?_
        refine Hd.heldK (J := (fun j => !([10].contains j))) (i := 3) (Ent.sep enn) ?_
        refine Hd.takeH 8 rfl (by kernel_rfl) (by kernel_rfl) (by kernel_rfl) (by kernel_rfl) (y_build (vs := [(0, _), (1, _), (2, _)]) rfl (by first | exact bd47_26 .. | kernel_rfl)) (fun _ _ => rfl) (Ent.sep enn) ?_
        refine Hd.onlyH 10 rfl (by kernel_rfl) ?_
        refine Hd.storeA (us := Hp.encI (addX id now after nx)) sz31 rfl rfl rfl (encI_one _) pkk (by exact rfl) ?_
        refine Hd.nil ?_
        refine Hd.thenN ?_
        refine Hd.heldN (J := (fun j => !([10].contains j))) (i := 10) rfl ?_
        refine Hd.endH (by kernel_rfl) ?_
        refine Hd.slots [(0, _), (3, _), (9, _)] ⟨rfl, rfl, rfl, trivial⟩ ?_
        clear hK1 hK2 hK3 hK5
        refine Hd.thenN ?_
        exact Hd.meet b9 (by repeat (first | exact trivial | refine ⟨rfl, ?_⟩)) (Ent.sep enn)
    ·
      intro b9
      refine Hd.seq (fun K6 hK6 => ?_)
      refine Hd.region ?_
      refine Hd.yv (y_move rfl) ?_
      refine Hd.yv (y_nilp rfl) ?_
      first | (refine Hd.yv (y_field' (q := 3) (ft := 29) Try.underlying69 rfl sz29 rfl rfl) ?_) | (refine Hd.yv (y_fieldR (q := 3) (ft := 29) Try.underlying69 rfl sz29 rfl rfl) ?_)
      first | (refine Hd.yv (y_load1 ag29 rfl (Rd.pt1 pkk (by (first | rfl)))) ?_) | (refine Hd.yv (y_load1 ag29 rfl (Rd.seg1 pkk (by (first | rfl)))) ?_) | (refine Hd.yv (y_loadR1 ag29 rfl (by (first | exact RdS.own pkk)) (by (first | rfl))) ?_)
      first | (refine Hd.yv (y_addn rfl rfl (by simp only [InK]; omega)) ?_) | (refine Hd.yv (y_add rfl rfl) ?_)
      refine Hd.yv (y_nilp rfl) ?_
      first | (refine Hd.yv (y_field' (q := 3) (ft := 29) Try.underlying69 rfl sz29 rfl rfl) ?_) | (refine Hd.yv (y_fieldR (q := 3) (ft := 29) Try.underlying69 rfl sz29 rfl rfl) ?_)
      first | (refine Hd.store1 sz29 rfl rfl rfl pkk (by first | decide | (simp; done) | (simp; omega)) ?_) | (refine Hd.storeG1 sz29 rfl rfl rfl pkk (by first | decide | (simp; done) | (simp; omega)) ?_) | (refine Hd.storeO1 sz29 rfl rfl rfl pkk (by first | omega | (simp; done) | (simp; omega)) ?_)
      try simp only [List.set_cons_zero, List.set_cons_succ]
      refine Hd.nil ?_
      refine Hd.slots [(0, _), (3, _), (9, _)] ⟨rfl, rfl, rfl, trivial⟩ ?_
      refine Hd.toK hK6 ?_
      refine Hd.seq (fun K7 hK7 => ?_)
      refine Hd.region ?_
      refine Hd.yv (y_assign rfl) ?_
      refine Hd.nil ?_
      refine Hd.slots [(0, _), (3, _), (9, _), (10, _)] ⟨rfl, rfl, rfl, rfl, trivial⟩ ?_
      refine Hd.toK hK7 ?_
      refine Hd.seq (fun K8 hK8 => ?_)
      refine Hd.seq (fun K9 hK9 => ?_)
      refine Hd.region ?_
      refine Hd.yv (y_assign rfl) ?_
      refine Hd.nil ?_
      refine Hd.slots [(0, _), (3, _), (9, _), (10, _), (11, _)] ⟨rfl, rfl, rfl, rfl, rfl, trivial⟩ ?_
      refine Hd.toK hK9 ?_
      refine Hd.block ?_
      refine Hd.loopK (ι := Nat × Int) [(0, _), (3, _), (9, _)] (fun q_ => [(10, .int .i64 q_.2), (11, .int .i64 (q_.1 : Int))]) (fun q_ => pu (q_.1 ≤ cm.length ∧ ((q_.2 = -1 ∧ after ∉ cm.take q_.1) ∨ ∃ j : Nat, j < q_.1 ∧ q_.2 = j ∧ cm[j]? = some after)) :: pt b9 (Hp.encI (addX id now after nx)) 31 :: RcL b l q cm (nx + 1) r L) (fun q_ => cm.length - q_.1) (0, -1) (by repeat (first | exact trivial | refine ⟨rfl, ?_⟩)) (by repeat (first | exact trivial | refine ⟨rfl, ?_⟩)) (Ent.sep (.pure ⟨Nat.zero_le _, .inl ⟨rfl, by simp⟩⟩ enn)) ?_
      rintro ⟨i, v⟩
      try dsimp only
      refine Hd.pure (fun hp0 => ?_)
      try dsimp only at hp0
      refine Hd.seq (fun K10 hK10 => ?_)
      refine Hd.seq (fun K11 hK11 => ?_)
      refine Hd.region ?_
      refine Hd.yv (y_move rfl) ?_
      refine Hd.yv (y_move rfl) ?_
      refine Hd.yv (y_nilp rfl) ?_
      first | (refine Hd.yv (y_field' (q := 2) (ft := 58) Try.underlying69 rfl sz58 rfl rfl) ?_) | (refine Hd.yv (y_fieldR (q := 2) (ft := 58) Try.underlying69 rfl sz58 rfl rfl) ?_)
      first | (refine Hd.yv (y_load1 ag58 rfl (Rd.pt1 pkk (by (first | rfl)))) ?_) | (refine Hd.yv (y_load1 ag58 rfl (Rd.seg1 pkk (by (first | rfl)))) ?_) | (refine Hd.yv (y_loadR1 ag58 rfl (by (first | exact RdS.own pkk)) (by (first | rfl))) ?_)
      refine Hd.yv (y_len Try.underlying58 rfl) ?_
      refine Hd.yv (y_lss rfl rfl) ?_
      refine Hd.nil ?_
      refine Hd.slots [(0, _), (3, _), (9, _), (10, _), (11, _), (40, _)] ⟨rfl, rfl, rfl, rfl, rfl, rfl, trivial⟩ ?_
      refine Hd.toK hK11 ?_
      refine Hd.cond rfl (fun hc1 => ?_) (fun hc1 => ?_)
      ·
        try simp only [decide_eq_true_eq, decide_eq_false_iff_not, Bool.and_eq_true, Bool.or_eq_true, Bool.and_eq_false_iff, Bool.or_eq_false_iff, Bool.not_eq_true', Bool.not_eq_false', Bool.not_eq_true, Bool.not_eq_false, Int.not_lt, Int.not_le, Decidable.not_not, ne_eq] at hc1
        have hi : i < cm.length := by omega
        have hgi : cm[i]? = some cm[i] := List.getElem?_eq_getElem hi
        refine Hd.skip ?_
        refine Hd.toK hK10 ?_
        refine Hd.seq (fun K12 hK12 => ?_)
        refine Hd.block ?_
        refine Hd.seq (fun K13 hK13 => ?_)
        refine Hd.region ?_
        refine Hd.yv (y_move rfl) ?_
        refine Hd.yv (y_nilp rfl) ?_
        first | (refine Hd.yv (y_field' (q := 2) (ft := 58) Try.underlying69 rfl sz58 rfl rfl) ?_) | (refine Hd.yv (y_fieldR (q := 2) (ft := 58) Try.underlying69 rfl sz58 rfl rfl) ?_)
        first | (refine Hd.yv (y_load1 ag58 rfl (Rd.pt1 pkk (by (first | rfl)))) ?_) | (refine Hd.yv (y_load1 ag58 rfl (Rd.seg1 pkk (by (first | rfl)))) ?_) | (refine Hd.yv (y_loadR1 ag58 rfl (by (first | exact RdS.own pkk)) (by (first | rfl))) ?_)
        refine Hd.yv (y_move rfl) ?_
        first | (refine Hd.yv (y_idxS Try.underlying58 sz29 rfl rfl (by first | omega | decide)) ?_) | (refine Hd.yv (y_idxR Try.underlying58 sz29 rfl rfl (by first | omega | decide) (by (first | exact RdS.own pkk))) ?_)
        refine Hd.yv (y_loadR1 ag29 rfl (RdS.own (ad := r.a3) (us := eU cm) pkk) (int_at hgi)) ?_
        refine Hd.yv (y_move rfl) ?_
        first | (refine Hd.yv (y_eqlT rfl rfl) ?_) | (refine Hd.yv (y_eql rfl rfl) ?_)
        refine Hd.nil ?_
        refine Hd.slots [(0, _), (3, _), (9, _), (10, _), (11, _), (51, _)] ⟨rfl, rfl, rfl, rfl, rfl, rfl, trivial⟩ ?_
        refine Hd.toK hK13 ?_
        refine Hd.cond rfl (fun hc2 => ?_) (fun hc2 => ?_)
        ·
          try simp only [decide_eq_true_eq, decide_eq_false_iff_not, Bool.and_eq_true, Bool.or_eq_true, Bool.and_eq_false_iff, Bool.or_eq_false_iff, Bool.not_eq_true', Bool.not_eq_false', Bool.not_eq_true, Bool.not_eq_false, Int.not_lt, Int.not_le, Decidable.not_not, ne_eq] at hc2
          refine Hd.region ?_
          refine Hd.yv (y_move rfl) ?_
          refine Hd.yv (y_assign rfl) ?_
          refine Hd.nil ?_
          refine Hd.slots [(0, _), (3, _), (9, _), (10, _), (11, _)] ⟨rfl, rfl, rfl, rfl, rfl, trivial⟩ ?_
          refine Hd.inB ?_
          refine Hd.toK hK12 ?_
          refine Hd.region ?_
          refine Hd.yv (y_move rfl) ?_
          first | (refine Hd.yv (y_addn rfl rfl (by simp only [InK]; omega)) ?_) | (refine Hd.yv (y_add rfl rfl) ?_)
          refine Hd.yv (y_assign rfl) ?_
          refine Hd.nil ?_
          refine Hd.slots [(0, _), (3, _), (9, _), (10, _), (11, _)] ⟨rfl, rfl, rfl, rfl, rfl, trivial⟩ ?_
          clear hK1 hK2 hK3 hK5 hK6 hK7 hK8 hK9 hK10 hK11 hK12 hK13
          refine Hd.thenN ?_
          exact Hd.again (i + 1, (i : Int)) (by first | omega | (simp only; omega) | (simp; omega)) (by repeat (first | exact trivial | refine ⟨rfl, ?_⟩)) (Ent.sep (.pure ⟨hi, .inr ⟨i, by omega, rfl, by rw [hgi, hc2]⟩⟩ enn))
        ·
          try simp only [decide_eq_true_eq, decide_eq_false_iff_not, Bool.and_eq_true, Bool.or_eq_true, Bool.and_eq_false_iff, Bool.or_eq_false_iff, Bool.not_eq_true', Bool.not_eq_false', Bool.not_eq_true, Bool.not_eq_false, Int.not_lt, Int.not_le, Decidable.not_not, ne_eq] at hc2
          refine Hd.skip ?_
          refine Hd.inB ?_
          refine Hd.toK hK12 ?_
          refine Hd.region ?_
          refine Hd.yv (y_move rfl) ?_
          first | (refine Hd.yv (y_addn rfl rfl (by simp only [InK]; omega)) ?_) | (refine Hd.yv (y_add rfl rfl) ?_)
          refine Hd.yv (y_assign rfl) ?_
          refine Hd.nil ?_
          refine Hd.slots [(0, _), (3, _), (9, _), (10, _), (11, _)] ⟨rfl, rfl, rfl, rfl, rfl, trivial⟩ ?_
          clear hK1 hK2 hK3 hK5 hK6 hK7 hK8 hK9 hK10 hK11 hK12 hK13
          refine Hd.thenN ?_
          have hvv : (v = -1 ∧ after ∉ cm.take (i + 1)) ∨ ∃ j : Nat, j < i + 1 ∧ v = j ∧ cm[j]? = some after := by
            rcases hp0.2 with ⟨h1, h2⟩ | ⟨j, h1, h2, h3⟩
            · refine .inl ⟨h1, ?_⟩
              rw [List.take_add_one, hgi]
              simp only [Option.toList_some, List.mem_append, not_or]
              exact ⟨h2, by simpa using fun e => hc2 e.symm⟩
            · exact .inr ⟨j, by omega, h2, h3⟩
          exact Hd.again (i + 1, v) (by first | omega | (simp only; omega) | (simp; omega)) (by repeat (first | exact trivial | refine ⟨rfl, ?_⟩)) (Ent.sep (.pure ⟨hi, hvv⟩ enn))
      ·
        try simp only [decide_eq_true_eq, decide_eq_false_iff_not, Bool.and_eq_true, Bool.or_eq_true, Bool.and_eq_false_iff, Bool.or_eq_false_iff, Bool.not_eq_true', Bool.not_eq_false', Bool.not_eq_true, Bool.not_eq_false, Int.not_lt, Int.not_le, Decidable.not_not, ne_eq] at hc1
        have hv : (v = -1 ∧ after ∉ cm) ∨ ∃ j : Nat, v = j ∧ cm[j]? = some after := by
          rcases hp0.2 with ⟨h1, h2⟩ | ⟨j, _, h2, h3⟩
          · rw [List.take_of_length_le (by omega)] at h2; exact .inl ⟨h1, h2⟩
          · exact .inr ⟨j, h2, h3⟩
        refine Hd.exit ?_
        refine Hd.thenExit ?_
        refine Hd.thenExit ?_
        refine Hd.inBexit ?_
        refine Hd.toK hK8 ?_
        refine Hd.seq (fun K14 hK14 => ?_)
        refine Hd.seq (fun K15 hK15 => ?_)
        refine Hd.region ?_
        refine Hd.yv (y_assign rfl) ?_
        refine Hd.nil ?_
        refine Hd.slots [(0, _), (9, _), (10, _), (12, _)] ⟨rfl, rfl, rfl, rfl, trivial⟩ ?_
        refine Hd.toK hK15 ?_
        refine Hd.block ?_
        refine Hd.loopK (ι := Nat × Int) [(0, _), (9, _)] (fun q_ => [(10, .int .i64 q_.2), (12, .int .i64 (q_.1 : Int))]) (fun q_ => pu (q_.1 ≤ l.length ∧ ((q_.2 = -1 ∧ (v = -1 ∨ ∃ y ∈ l.take q_.1, qV (cutQ id qs) y = v ∧ dl now after < y.at_)) ∨ (q_.2 = v ∧ ∀ y ∈ l.take q_.1, qV (cutQ id qs) y = v → y.at_ ≤ dl now after))) :: pt b9 (Hp.encI (addX id now after nx)) 31 :: RcL b l q cm (nx + 1) r L) (fun q_ => l.length - q_.1) (0, v) (by repeat (first | exact trivial | refine ⟨rfl, ?_⟩)) (by repeat (first | exact trivial | refine ⟨rfl, ?_⟩)) (Ent.sep (.pure ⟨Nat.zero_le _, .inr ⟨rfl, by simp⟩⟩ enn)) ?_
        rintro ⟨i, w⟩
        try dsimp only
        refine Hd.pure (fun hp1 => ?_)
        try dsimp only at hp1
        refine Hd.seq (fun K16 hK16 => ?_)
        refine Hd.seq (fun K17 hK17 => ?_)
        refine Hd.region ?_
        refine Hd.yv (y_move rfl) ?_
        refine Hd.yv (y_move rfl) ?_
        refine Hd.yv (y_nilp rfl) ?_
        first | (refine Hd.yv (y_field' (q := 0) (ft := 22) Try.underlying69 rfl sz22 rfl rfl) ?_) | (refine Hd.yv (y_fieldR (q := 0) (ft := 22) Try.underlying69 rfl sz22 rfl rfl) ?_)
        first | (refine Hd.yv (y_load1 ag22 rfl (Rd.pt1 pkk (by (first | rfl)))) ?_) | (refine Hd.yv (y_load1 ag22 rfl (Rd.seg1 pkk (by (first | rfl)))) ?_) | (refine Hd.yv (y_loadR1 ag22 rfl (by (first | exact RdS.own pkk)) (by (first | rfl))) ?_)
        refine Hd.yv (y_len Try.underlying22 rfl) ?_
        refine Hd.yv (y_lss rfl rfl) ?_
        refine Hd.nil ?_
        refine Hd.slots [(0, _), (9, _), (10, _), (12, _), (59, _)] ⟨rfl, rfl, rfl, rfl, rfl, trivial⟩ ?_
        refine Hd.toK hK17 ?_
        refine Hd.cond rfl (fun hc3 => ?_) (fun hc3 => ?_)
        ·
          try simp only [decide_eq_true_eq, decide_eq_false_iff_not, Bool.and_eq_true, Bool.or_eq_true, Bool.and_eq_false_iff, Bool.or_eq_false_iff, Bool.not_eq_true', Bool.not_eq_false', Bool.not_eq_true, Bool.not_eq_false, Int.not_lt, Int.not_le, Decidable.not_not, ne_eq] at hc3
          have hi : i < l.length := by omega
          have hgi : l[i]? = some (g l i) := g_at hi
          have hqi : q[i]? = some (qV (cutQ id qs) (g l i)) := by rw [hr.q, List.getElem?_map, hgi]; rfl
          refine Hd.skip ?_
          refine Hd.toK hK16 ?_
          refine Hd.seq (fun K18 hK18 => ?_)
          refine Hd.block ?_
          refine Hd.seq (fun K19 hK19 => ?_)
          refine Hd.quiet mixed (by kernel_rfl) ?_
          refine Hq.yv (y_move rfl) ?_
          refine Hq.yv (y_geq rfl rfl) ?_
          refine Hq.yv (y_move rfl) ?_
          apply Hq.andg 10 64 74 [(0, _), (9, _), (10, _), (12, _)] rfl ⟨rfl, rfl, rfl, rfl, trivial⟩
          · intro hg15_64
            try simp only [decide_eq_true_eq, decide_eq_false_iff_not, Bool.and_eq_true, Bool.or_eq_true, Bool.and_eq_false_iff, Bool.or_eq_false_iff, Bool.not_eq_true', Bool.not_eq_false', Bool.not_eq_true, Bool.not_eq_false, Int.not_lt, Int.not_le, Decidable.not_not, ne_eq] at hg15_64
            simp only [List.take]
            refine Hq.yg rfl rfl (y_move rfl) ?_
            refine Hq.yg rfl rfl (y_nilp rfl) ?_
            first | (refine Hq.yg rfl rfl (y_field' (q := 1) (ft := 67) Try.underlying69 rfl sz67 rfl rfl) ?_) | (refine Hq.yg rfl rfl (y_fieldR (q := 1) (ft := 67) Try.underlying69 rfl sz67 rfl rfl) ?_)
            first | (refine Hq.yg rfl rfl (y_load1 ag67 rfl (Rd.pt1 pkk (by (first | rfl)))) ?_) | (refine Hq.yg rfl rfl (y_load1 ag67 rfl (Rd.seg1 pkk (by (first | rfl)))) ?_) | (refine Hq.yg rfl rfl (y_loadR1 ag67 rfl (by (first | exact RdS.own pkk)) (by (first | rfl))) ?_)
            refine Hq.yg rfl rfl (y_move rfl) ?_
            first | (refine Hq.yg rfl rfl (y_idxS Try.underlying67 sz3 rfl rfl (by first | omega | decide)) ?_) | (refine Hq.yg rfl rfl (y_idxR Try.underlying67 sz3 rfl rfl (by first | omega | decide) (by (first | exact RdS.own pkk))) ?_)
            refine Hq.yg rfl rfl (y_loadR1 ag3 rfl (RdS.own (ad := r.a2) (us := eI q) pkk) (int_at hqi)) ?_
            refine Hq.yg rfl rfl (y_move rfl) ?_
            first | (refine Hq.yg rfl rfl (y_eqlT rfl rfl) ?_) | (refine Hq.yg rfl rfl (y_eql rfl rfl) ?_)
            first | (refine Hq.yv (y_pickT rfl rfl) ?_) | (refine Hq.yv (y_pickF rfl rfl) ?_) | (refine Hq.yv (y_pickb rfl rfl rfl) ?_) | (refine Hq.yv (y_pick rfl rfl rfl) ?_)
            exact Hq.mend (by repeat (first | exact trivial | refine ⟨rfl, ?_⟩))
          · intro hg15_64
            try simp only [decide_eq_true_eq, decide_eq_false_iff_not, Bool.and_eq_true, Bool.or_eq_true, Bool.and_eq_false_iff, Bool.or_eq_false_iff, Bool.not_eq_true', Bool.not_eq_false', Bool.not_eq_true, Bool.not_eq_false, Int.not_lt, Int.not_le, Decidable.not_not, ne_eq] at hg15_64
            simp only [List.take]
            refine Hq.ng rfl rfl rfl ?_
            refine Hq.ng rfl rfl rfl ?_
            refine Hq.ng rfl rfl rfl ?_
            refine Hq.ng rfl rfl rfl ?_
            refine Hq.ng rfl rfl rfl ?_
            refine Hq.ng rfl rfl rfl ?_
            refine Hq.ng rfl rfl rfl ?_
            refine Hq.ng rfl rfl rfl ?_
            refine Hq.ng rfl rfl rfl ?_
            first | (refine Hq.yv (y_pickT rfl rfl) ?_) | (refine Hq.yv (y_pickF rfl rfl) ?_) | (refine Hq.yv (y_pickb rfl rfl rfl) ?_) | (refine Hq.yv (y_pick rfl rfl rfl) ?_)
            exact Hq.mend (by repeat (first | exact trivial | refine ⟨rfl, ?_⟩))
          simp only [List.drop]
          refine Hq.yv (y_move rfl) ?_
          apply Hq.andg 12 75 87 [(0, _), (9, _), (10, _), (12, _)] rfl ⟨rfl, rfl, rfl, rfl, trivial⟩
          · intro hg15_75
            try simp only [decide_eq_true_eq, decide_eq_false_iff_not, Bool.and_eq_true, Bool.or_eq_true, Bool.and_eq_false_iff, Bool.or_eq_false_iff, Bool.not_eq_true', Bool.not_eq_false', Bool.not_eq_true, Bool.not_eq_false, Int.not_lt, Int.not_le, Decidable.not_not, ne_eq] at hg15_75
            simp only [List.take]
            refine Hq.yg rfl rfl (y_move rfl) ?_
            refine Hq.yg rfl rfl (y_nilp rfl) ?_
            first | (refine Hq.yg rfl rfl (y_field' (q := 0) (ft := 22) Try.underlying69 rfl sz22 rfl rfl) ?_) | (refine Hq.yg rfl rfl (y_fieldR (q := 0) (ft := 22) Try.underlying69 rfl sz22 rfl rfl) ?_)
            first | (refine Hq.yg rfl rfl (y_load1 ag22 rfl (Rd.pt1 pkk (by (first | rfl)))) ?_) | (refine Hq.yg rfl rfl (y_load1 ag22 rfl (Rd.seg1 pkk (by (first | rfl)))) ?_) | (refine Hq.yg rfl rfl (y_loadR1 ag22 rfl (by (first | exact RdS.own pkk)) (by (first | rfl))) ?_)
            refine Hq.yg rfl rfl (y_move rfl) ?_
            first | (refine Hq.yg rfl rfl (y_idxS Try.underlying22 sz31 rfl rfl (by first | omega | decide)) ?_) | (refine Hq.yg rfl rfl (y_idxR Try.underlying22 sz31 rfl rfl (by first | omega | decide) (by (first | exact RdS.own pkk))) ?_)
            first | (refine Hq.yg rfl rfl (y_field' (q := 1) (ft := 29) Try.underlying31 rfl sz29 rfl rfl) ?_) | (refine Hq.yg rfl rfl (y_fieldR (q := 1) (ft := 29) Try.underlying31 rfl sz29 rfl rfl) ?_)
            refine Hq.yg rfl rfl (y_loadR1 ag29 rfl (RdS.own (ad := r.a1) (us := l.flatMap Hp.encI) pkk) (flat_cells Hp.encI 3 (fun _ => rfl) hgi 1 _ rfl)) ?_
            first | (refine Hq.yg rfl rfl (y_field' (q := 1) (ft := 29) Try.underlying31 rfl sz29 rfl rfl) ?_) | (refine Hq.yg rfl rfl (y_fieldR (q := 1) (ft := 29) Try.underlying31 rfl sz29 rfl rfl) ?_)
            first | (refine Hq.yg rfl rfl (y_load1 ag29 rfl (Rd.pt1 pkk (by (first | rfl)))) ?_) | (refine Hq.yg rfl rfl (y_load1 ag29 rfl (Rd.seg1 pkk (by (first | rfl)))) ?_) | (refine Hq.yg rfl rfl (y_loadR1 ag29 rfl (by (first | exact RdS.own pkk)) (by (first | rfl))) ?_)
            refine Hq.yg rfl rfl (y_gtr rfl rfl) ?_
            first | (refine Hq.yv (y_pickT rfl rfl) ?_) | (refine Hq.yv (y_pickF rfl rfl) ?_) | (refine Hq.yv (y_pickb rfl rfl rfl) ?_) | (refine Hq.yv (y_pick rfl rfl rfl) ?_)
            exact Hq.mend (by repeat (first | exact trivial | refine ⟨rfl, ?_⟩))
          · intro hg15_75
            try simp only [decide_eq_true_eq, decide_eq_false_iff_not, Bool.and_eq_true, Bool.or_eq_true, Bool.and_eq_false_iff, Bool.or_eq_false_iff, Bool.not_eq_true', Bool.not_eq_false', Bool.not_eq_true, Bool.not_eq_false, Int.not_lt, Int.not_le, Decidable.not_not, ne_eq] at hg15_75
            simp only [List.take]
            refine Hq.ng rfl rfl rfl ?_
            refine Hq.ng rfl rfl rfl ?_
            refine Hq.ng rfl rfl rfl ?_
            refine Hq.ng rfl rfl rfl ?_
            refine Hq.ng rfl rfl rfl ?_
            refine Hq.ng rfl rfl rfl ?_
            refine Hq.ng rfl rfl rfl ?_
            refine Hq.ng rfl rfl rfl ?_
            refine Hq.ng rfl rfl rfl ?_
            refine Hq.ng rfl rfl rfl ?_
            refine Hq.ng rfl rfl rfl ?_
            first | (refine Hq.yv (y_pickT rfl rfl) ?_) | (refine Hq.yv (y_pickF rfl rfl) ?_) | (refine Hq.yv (y_pickb rfl rfl rfl) ?_) | (refine Hq.yv (y_pick rfl rfl rfl) ?_)
            exact Hq.mend (by repeat (first | exact trivial | refine ⟨rfl, ?_⟩))
          simp only [List.drop]
          refine Hq.nil ?_
          refine Hd.slots [(0, _), (9, _), (10, _), (12, _), (87, _)] ⟨rfl, rfl, rfl, rfl, rfl, trivial⟩ ?_
          refine Hd.toK hK19 ?_
          refine Hd.cond rfl (fun hc4 => ?_) (fun hc4 => ?_)
          ·
            try simp only [decide_eq_true_eq, decide_eq_false_iff_not, Bool.and_eq_true, Bool.or_eq_true, Bool.and_eq_false_iff, Bool.or_eq_false_iff, Bool.not_eq_true', Bool.not_eq_false', Bool.not_eq_true, Bool.not_eq_false, Int.not_lt, Int.not_le, Decidable.not_not, ne_eq] at hc4
            have hy : qV (cutQ id qs) (g l i) = w ∧ dl now after < (g l i).at_ ∧ 0 ≤ w := by obtain ⟨⟨h1, h2⟩, h3⟩ := hc4; exact ⟨h2, h3, h1⟩
            refine Hd.region ?_
            refine Hd.yv (y_assign rfl) ?_
            refine Hd.nil ?_
            refine Hd.slots [(0, _), (9, _), (10, _), (12, _)] ⟨rfl, rfl, rfl, rfl, trivial⟩ ?_
            refine Hd.inB ?_
            refine Hd.toK hK18 ?_
            refine Hd.region ?_
            refine Hd.yv (y_move rfl) ?_
            first | (refine Hd.yv (y_addn rfl rfl (by simp only [InK]; omega)) ?_) | (refine Hd.yv (y_add rfl rfl) ?_)
            refine Hd.yv (y_assign rfl) ?_
            refine Hd.nil ?_
            refine Hd.slots [(0, _), (9, _), (10, _), (12, _)] ⟨rfl, rfl, rfl, rfl, trivial⟩ ?_
            clear hK1 hK2 hK3 hK5 hK6 hK7 hK8 hK9 hK10 hK11 hK14 hK15 hK16 hK17 hK18 hK19
            refine Hd.thenN ?_
            have hww : v = -1 ∨ ∃ y ∈ l.take (i + 1), qV (cutQ id qs) y = v ∧ dl now after < y.at_ := by
              rcases hp1.2 with ⟨h1, h2⟩ | ⟨h1, h2⟩
              · omega
              · exact .inr ⟨g l i, by rw [List.take_add_one, hgi]; simp, by rw [hy.1, h1], hy.2.1⟩
            exact Hd.again (i + 1, -1) (by first | omega | (simp only; omega) | (simp; omega)) (by repeat (first | exact trivial | refine ⟨rfl, ?_⟩)) (Ent.sep (.pure ⟨hi, .inl ⟨rfl, hww⟩⟩ enn))
          ·
            try simp only [decide_eq_true_eq, decide_eq_false_iff_not, Bool.and_eq_true, Bool.or_eq_true, Bool.and_eq_false_iff, Bool.or_eq_false_iff, Bool.not_eq_true', Bool.not_eq_false', Bool.not_eq_true, Bool.not_eq_false, Int.not_lt, Int.not_le, Decidable.not_not, ne_eq] at hc4
            refine Hd.skip ?_
            refine Hd.inB ?_
            refine Hd.toK hK18 ?_
            refine Hd.region ?_
            refine Hd.yv (y_move rfl) ?_
            first | (refine Hd.yv (y_addn rfl rfl (by simp only [InK]; omega)) ?_) | (refine Hd.yv (y_add rfl rfl) ?_)
            refine Hd.yv (y_assign rfl) ?_
            refine Hd.nil ?_
            refine Hd.slots [(0, _), (9, _), (10, _), (12, _)] ⟨rfl, rfl, rfl, rfl, trivial⟩ ?_
            clear hK1 hK2 hK3 hK5 hK6 hK7 hK8 hK9 hK10 hK11 hK14 hK15 hK16 hK17 hK18 hK19
            refine Hd.thenN ?_
            have hww : (w = -1 ∧ (v = -1 ∨ ∃ y ∈ l.take (i + 1), qV (cutQ id qs) y = v ∧ dl now after < y.at_)) ∨ (w = v ∧ ∀ y ∈ l.take (i + 1), qV (cutQ id qs) y = v → y.at_ ≤ dl now after) := by
              rcases hp1.2 with ⟨h1, h2 | ⟨y, h3, h4⟩⟩ | ⟨h1, h2⟩
              · exact .inl ⟨h1, .inl h2⟩
              · exact .inl ⟨h1, .inr ⟨y, by rw [List.take_add_one]; exact List.mem_append.2 (.inl h3), h4⟩⟩
              · rcases hv with ⟨h5, _⟩ | ⟨j, h5, _⟩
                · exact .inl ⟨by omega, .inl h5⟩
                · refine .inr ⟨h1, fun y hy he => ?_⟩
                  rw [List.take_add_one, hgi] at hy
                  rcases List.mem_append.1 hy with hy | hy
                  · exact h2 y hy he
                  · obtain rfl : y = g l i := by simpa using hy
                    refine Decidable.byContradiction fun hlt => ?_
                    have h := hc4
                    omega
            exact Hd.again (i + 1, w) (by first | omega | (simp only; omega) | (simp; omega)) (by repeat (first | exact trivial | refine ⟨rfl, ?_⟩)) (Ent.sep (.pure ⟨hi, hww⟩ enn))
        ·
          try simp only [decide_eq_true_eq, decide_eq_false_iff_not, Bool.and_eq_true, Bool.or_eq_true, Bool.and_eq_false_iff, Bool.or_eq_false_iff, Bool.not_eq_true', Bool.not_eq_false', Bool.not_eq_true, Bool.not_eq_false, Int.not_lt, Int.not_le, Decidable.not_not, ne_eq] at hc3
          have hi : i = l.length := by omega
          have hw : (w = -1 ∧ (v = -1 ∨ ∃ y ∈ l, qV (cutQ id qs) y = v ∧ (addX id now after nx).at_ < y.at_)) ∨ (w = v ∧ ∀ y ∈ l, qV (cutQ id qs) y = v → y.at_ ≤ (addX id now after nx).at_) := by
            have h := hp1.2
            rwa [hi, List.take_length] at h
          have hno : ∀ y ∈ remI id s, y.id ≠ (addX id now after nx).id := fun y hy => (rem_mem.1 hy).2
          rw [hr.cm] at hv
          have hnew := put_new hok hr.perm hno hv hw
          have hn1 : (l ++ [addX id now after nx]).length = l.length + 1 := by simp
          have hn2 : (q ++ [w]).length = q.length + 1 := by simp
          have hrel : Rel (addQ qs id now after nx) (addS s id now after nx) (l ++ [addX id now after nx]) (q ++ [w]) cm := by
            have e1 : addQ qs id now after nx = putQ after (addX id now after nx) (cutQ id qs) := by unfold addQ; rw [if_neg (by omega)]
            have e2 : addS s id now after nx = insI (addX id now after nx) (remI id s) := by unfold addS; rw [if_neg (by omega)]
            have haf : ∀ (a : Int) (x : It) (qs : List Q), (putQ a x qs).map Q.af = qs.map Q.af := fun a x qs => by
              induction qs with
              | nil => rfl
              | cons p t ih =>
                unfold putQ; split
                · rfl
                · rw [List.map_cons, ih]; rfl
            rw [e1, e2]
            refine ⟨?_, ?_, hr.cm.trans (haf _ _ _).symm⟩
            · exact (List.perm_append_singleton _ _).trans ((List.Perm.cons _ hr.perm).trans (insI_perm _ _).symm)
            · rw [List.map_append, hr.q]
              congr 1
              · exact List.map_congr_left fun y hy => (qOf_put (hno y (hr.perm.mem_iff.1 hy))).symm
              · show [w] = [_]; rw [← hnew]
          refine Hd.exit ?_
          refine Hd.thenExit ?_
          refine Hd.thenExit ?_
          refine Hd.inBexit ?_
          refine Hd.toK hK14 ?_
          refine Hd.seq (fun K20 hK20 => ?_)
          refine Hd.drawsH ([RcH b l.length q.length cm.length r (nx + 1), pt b9 (Hp.encI (addX id now after nx)) 31]) (fun j => !([10].contains j)) mixed ?_
          simp only [List.length, Nat.zero_add, Nat.reduceAdd]
          refine Hd.takeH 0 rfl (by kernel_rfl) (by kernel_rfl) (by kernel_rfl) (by kernel_rfl) (y_move rfl) (fun _ _ => rfl) (Ent.sep enn) ?_
          refine Hd.takeH 1 rfl (by kernel_rfl) (by kernel_rfl) (by kernel_rfl) (by kernel_rfl) (y_move rfl) (fun _ _ => rfl) (Ent.sep enn) ?_
          refine Hd.takeH 2 rfl (by kernel_rfl) (by kernel_rfl) (by kernel_rfl) (by kernel_rfl) (y_nilp rfl) (fun _ _ => rfl) (Ent.sep enn) ?_
          first | (refine Hd.takeH 3 rfl (by kernel_rfl) (by kernel_rfl) (by kernel_rfl) (by kernel_rfl) (y_field' (q := 0) (ft := 22) Try.underlying69 rfl sz22 rfl rfl) (fun _ _ => rfl) (Ent.sep enn) ?_) | (refine Hd.takeH 3 rfl (by kernel_rfl) (by kernel_rfl) (by kernel_rfl) (by kernel_rfl) (y_fieldR (q := 0) (ft := 22) Try.underlying69 rfl sz22 rfl rfl) (fun _ _ => rfl) (Ent.sep enn) ?_)
          first | (refine Hd.takeH 4 rfl (by kernel_rfl) (by kernel_rfl) (by kernel_rfl) (by kernel_rfl) (y_load1 ag22 rfl (Rd.pt1 pkk (by (first | rfl)))) (fun _ _ => rfl) (Ent.sep enn) ?_) | (refine Hd.takeH 4 rfl (by kernel_rfl) (by kernel_rfl) (by kernel_rfl) (by kernel_rfl) (y_load1 ag22 rfl (Rd.seg1 pkk (by (first | rfl)))) (fun _ _ => rfl) (Ent.sep enn) ?_) | (refine Hd.takeH 4 rfl (by kernel_rfl) (by kernel_rfl) (by kernel_rfl) (by kernel_rfl) (y_loadR1 ag22 rfl (by (first | exact RdS.own pkk)) (by (first | rfl))) (fun _ _ => rfl) (Ent.sep enn) ?_)
          first | (refine Hd.takeH 5 rfl (by kernel_rfl) (by kernel_rfl) (by kernel_rfl) (by kernel_rfl) (y_loadn (us := [_, _, _]) ag31 rfl (Rd.pt pkk (by (first | (intro j v e; rcases j with _|_|_|_|_|_|_|_|_|_|_|_|j <;> first | exact e | exact absurd e (by simp))))) (by exact sz31)) (fun _ _ => rfl) (Ent.sep enn) ?_) | (refine Hd.takeH 5 rfl (by kernel_rfl) (by kernel_rfl) (by kernel_rfl) (by kernel_rfl) (y_loadn (us := [_, _, _]) ag31 rfl (Rd.seg pkk (by (first | (intro j v e; rcases j with _|_|_|_|_|_|_|_|_|_|_|_|j <;> first | exact e | exact absurd e (by simp))))) (by exact sz31)) (fun _ _ => rfl) (Ent.sep enn) ?_) | (refine Hd.takeH 5 rfl (by kernel_rfl) (by kernel_rfl) (by kernel_rfl) (by kernel_rfl) (y_loadRn ag31 rfl (by (first | exact RdS.own pkk)) (by (first | (intro j v e; rcases j with _|_|_|_|_|_|_|_|_|_|_|_|j <;> first | exact e | exact absurd e (by simp)))) (by exact sz31) (by simp)) (fun _ _ => rfl) (Ent.sep enn) ?_)
          refine Hd.onlyH 6 rfl (by kernel_rfl) ?_
          refine Hd.bslice (vs := [(0, _)]) rfl (by first | exact bs47_94 .. | kernel_rfl) (fun b94 => ?_)
          refine Hd.nil ?_
          refine Hd.thenN ?_
          refine Hd.heldK (J := (fun j => !([10].contains j))) (i := 6) (Ent.sep enn) ?_
          refine Hd.onlyH 7 rfl (by kernel_rfl) ?_
          refine Hd.append Try.underlying22 ty31 rfl rfl rfl pkk (by first | exact RdS.rd (Rd.pt pkk (fun j v e => by simpa using e)) rfl | (first | exact RdS.own pkk)) (by first | (simp [Value.oneCell']; done) | assumption) (by first | (simp only [maxLen]; omega) | assumption) (by omega) (fun ad95 cap95 => ?_)
          refine Hd.nil ?_
          refine Hd.thenN ?_
          refine Hd.heldK (J := (fun j => !([10].contains j))) (i := 7) (Ent.sep enn) ?_
          refine Hd.onlyH 8 rfl (by kernel_rfl) ?_
          refine Hd.yv (y_nilp rfl) ?_
          refine Hd.nil ?_
          refine Hd.thenN ?_
          refine Hd.heldK (J := (fun j => !([10].contains j))) (i := 8) (Ent.sep enn) ?_
          first | (refine Hd.takeH 9 rfl (by kernel_rfl) (by kernel_rfl) (by kernel_rfl) (by kernel_rfl) (y_field' (q := 0) (ft := 22) Try.underlying69 rfl sz22 rfl rfl) (fun _ _ => rfl) (Ent.sep enn) ?_) | (refine Hd.takeH 9 rfl (by kernel_rfl) (by kernel_rfl) (by kernel_rfl) (by kernel_rfl) (y_fieldR (q := 0) (ft := 22) Try.underlying69 rfl sz22 rfl rfl) (fun _ _ => rfl) (Ent.sep enn) ?_)
          refine Hd.onlyH 10 rfl (by kernel_rfl) ?_
          first | (refine Hd.store1 sz22 rfl rfl rfl pkk (by first | decide | (simp; done) | (simp; omega)) ?_) | (refine Hd.storeG1 sz22 rfl rfl rfl pkk (by first | decide | (simp; done) | (simp; omega)) ?_) | (refine Hd.storeO1 sz22 rfl rfl rfl pkk (by first | omega | (simp; done) | (simp; omega)) ?_)
          try simp only [List.set_cons_zero, List.set_cons_succ]
          refine Hd.nil ?_
          refine Hd.thenN ?_
          refine Hd.heldN (J := (fun j => !([10].contains j))) (i := 10) rfl ?_
          refine Hd.endH (by kernel_rfl) ?_
          refine Hd.slots [(0, _), (10, _)] ⟨rfl, rfl, trivial⟩ ?_
          refine Hd.toK hK20 ?_
          refine Hd.seq (fun K21 hK21 => ?_)
          refine Hd.region ?_
          refine Hd.yv (y_move rfl) ?_
          refine Hd.yv (y_move rfl) ?_
          refine Hd.yv (y_nilp rfl) ?_
          first | (refine Hd.yv (y_field' (q := 1) (ft := 67) Try.underlying69 rfl sz67 rfl rfl) ?_) | (refine Hd.yv (y_fieldR (q := 1) (ft := 67) Try.underlying69 rfl sz67 rfl rfl) ?_)
          first | (refine Hd.yv (y_load1 ag67 rfl (Rd.pt1 pkk (by (first | rfl)))) ?_) | (refine Hd.yv (y_load1 ag67 rfl (Rd.seg1 pkk (by (first | rfl)))) ?_) | (refine Hd.yv (y_loadR1 ag67 rfl (by (first | exact RdS.own pkk)) (by (first | rfl))) ?_)
          refine Hd.yv (y_move rfl) ?_
          refine Hd.bslice (vs := [(0, _)]) rfl (by first | exact bs47_104 .. | kernel_rfl) (fun b104 => ?_)
          refine Hd.append Try.underlying67 ty3 rfl rfl rfl pkk (by first | exact RdS.rd (Rd.pt pkk (fun j v e => by simpa using e)) rfl | (first | exact RdS.own pkk)) (by first | (simp [Value.oneCell']; done) | assumption) (by first | (simp only [maxLen]; omega) | assumption) (by omega) (fun ad105 cap105 => ?_)
          refine Hd.yv (y_nilp rfl) ?_
          first | (refine Hd.yv (y_field' (q := 1) (ft := 67) Try.underlying69 rfl sz67 rfl rfl) ?_) | (refine Hd.yv (y_fieldR (q := 1) (ft := 67) Try.underlying69 rfl sz67 rfl rfl) ?_)
          first | (refine Hd.store1 sz67 rfl rfl rfl pkk (by first | decide | (simp; done) | (simp; omega)) ?_) | (refine Hd.storeG1 sz67 rfl rfl rfl pkk (by first | decide | (simp; done) | (simp; omega)) ?_) | (refine Hd.storeO1 sz67 rfl rfl rfl pkk (by first | omega | (simp; done) | (simp; omega)) ?_)
          try simp only [List.set_cons_zero, List.set_cons_succ]
          refine Hd.nil ?_
          refine Hd.slots [] trivial ?_
          refine Hd.toK hK21 ?_
          refine Hd.seq (fun K22 hK22 => ?_)
          refine Hd.region ?_
          refine Hd.yv (y_assign rfl) ?_
          refine Hd.nil ?_
          refine Hd.slots [(8, _)] ⟨rfl, trivial⟩ ?_
          refine Hd.toK hK22 ?_
          refine Hd.ret ?_
          clear hK1 hK2 hK3 hK5 hK6 hK7 hK8 hK9 hK10 hK11 hK14 hK15 hK16 hK17 hK20 hK21 hK22
          rw [show addV id = 0 by unfold addV; rw [if_neg (by omega)], show addN id nx = nx + 1 by unfold addN; rw [if_neg (by omega)]]
          exact Hd.ret1 rfl () rfl (Ent.sep (.ex ⟨{ r with a1 := ad95, c1 := cap95, a2 := ad105, c2 := cap105 }, l ++ [addX id now after nx], q ++ [w], cm⟩ (.pure hrel (.eq pkk (pt_eq (by rw [hn1, hn2]; rfl)) (.eq pkk (own_eq3 hn1.symm rfl (show l.flatMap Hp.encI ++ Hp.encI (addX id now after nx) = (l ++ [addX id now after nx]).flatMap Hp.encI by rw [List.flatMap_append]; rfl)) (.eq pkk (own_eq3 hn2.symm rfl (show eI q ++ [Value.int .i64 w] = eI (q ++ [w]) by simp [eI])) enn))))))
end Cm
end Go.Proofs.Ytcnegelaenkgpaa
