/-
  The document's timers: Cut, Forget, Len, first, Due, Wait.
-/
import Derived.Test.YtdjoofidicoimaaTi12
namespace Go.Proofs.Ytdjoofidicoimaa
set_option linter.unusedSimpArgs false
set_option linter.unusedVariables false
set_option linter.unnecessarySimpa false
open Go.RX Fx Hp Cm
namespace Tm
set_option maxRecDepth 8000
theorem ex_at {l : List On} {a : Int} (h : a < 0 ∨ ∃ (k : Nat) (x : On), a = (k : Int) ∧ l[k]? = some x) : ∃ (k : Nat) (x : On), ¬ a < 0 → a = (k : Int) ∧ k < l.length ∧ l[k]? = some x := by
  rcases h with h | ⟨k, x, e, hk⟩
  · exact ⟨0, ⟨0, 0, false, 0, 0⟩, fun q => absurd h q⟩
  · exact ⟨k, x, fun _ => ⟨e, (List.getElem?_eq_some_iff.1 hk).1, hk⟩⟩
set_option maxHeartbeats 2000000 in
theorem rtcut_ct (L : List SP) (b : Nat) (s : List It) (nx : Int) (af : AF) (lim : Int) (l : List On) (r : Option Addr × Nat) (hr : TrOk s af nx l) (hF : (s.map It.id).Nodup) (id : Int) : Ct Try.prog 27 #[.pointer (some ⟨b, 0, none⟩), .int .i64 id] (TrL b l nx lim r L) (fun l' : List On => .bool (findI id s).isSome) (fun l' : List On => pu (TrOk (remI id s) af nx l' ∧ l'.length = l.length) :: TrL b l' nx lim r L) := by
  refine Ct.of (vs := [.pointer (some ⟨b, 0, none⟩), .int .i64 id]) Try.func27 rfl rfl [(0, .pointer (some ⟨b, 0, none⟩)), (1, .int .i64 id)] (by repeat (first | exact trivial | refine ⟨rfl, ?_⟩)) ?_
  intro E
  show Hd E 38 _ _ _ _
  have hll := hr.len
  have hnx := hr.nx
  have hfx := fx_cases (id := id) hr.rel.nd
  refine Hd.seq (fun K1 hK1 => ?_)
  refine Hd.region ?_
  refine Hd.yv (y_assign rfl) ?_
  refine Hd.nil ?_
  refine Hd.slots [(0, _), (1, _)] ⟨rfl, rfl, trivial⟩ ?_
  refine Hd.toK hK1 ?_
  refine Hd.seq (fun K2 hK2 => ?_)
  refine Hd.region ?_
  refine Hd.yv (y_move rfl) ?_
  refine Hd.yv (y_move rfl) ?_
  refine Hd.callE rfl fk31 (rtfind_ct _ b l nx lim r (by omega) id) (Ent.sep enn) ?_
  intro _
  obtain ⟨v, hv⟩ : ∃ v, v = fx id l := ⟨_, rfl⟩
  rw [show idxA id (l.map On.id) 0 = v from hv.symm]
  rw [← hv] at hfx
  obtain ⟨k, x, hkx⟩ : ∃ (k : Nat) (x : On), ¬ v < 0 → v = (k : Int) ∧ k < l.length ∧ l[k]? = some x := by
    refine ex_at ?_
    rcases hfx with ⟨e, _⟩ | ⟨pre, x, post, ha, e, h1, h2⟩
    · left; omega
    · exact .inr ⟨_, x, e, h2⟩
  refine Hd.yv (y_assign rfl) ?_
  refine Hd.nil ?_
  refine Hd.slots [(0, _), (5, _)] ⟨rfl, rfl, trivial⟩ ?_
  refine Hd.toK hK2 ?_
  refine Hd.seq (fun K3 hK3 => ?_)
  refine Hd.seq (fun K4 hK4 => ?_)
  refine Hd.region ?_
  refine Hd.yv (y_move rfl) ?_
  refine Hd.yv (y_lss rfl rfl) ?_
  refine Hd.yv (y_move rfl) ?_
  apply Hd.org 10 12 22 [(0, _), (5, _)] rfl ⟨rfl, rfl, trivial⟩
  · intro hg2_12
    try simp only [decide_eq_true_eq, decide_eq_false_iff_not, Bool.and_eq_true, Bool.or_eq_true, Bool.and_eq_false_iff, Bool.or_eq_false_iff, Bool.not_eq_true', Bool.not_eq_false', Bool.not_eq_true, Bool.not_eq_false, Int.not_lt, Int.not_le, Decidable.not_not, ne_eq] at hg2_12
    simp only [List.take]
    refine Hd.ng rfl rfl rfl ?_
    refine Hd.ng rfl rfl rfl ?_
    refine Hd.ng rfl rfl rfl ?_
    refine Hd.ng rfl rfl rfl ?_
    refine Hd.ng rfl rfl rfl ?_
    refine Hd.ng rfl rfl rfl ?_
    refine Hd.ng rfl rfl rfl ?_
    refine Hd.ng rfl rfl rfl ?_
    refine Hd.ng rfl rfl rfl ?_
    first | (refine Hd.yv (y_pickT rfl rfl) ?_) | (refine Hd.yv (y_pickF rfl rfl) ?_) | (refine Hd.yv (y_pickb rfl rfl rfl) ?_) | (refine Hd.yv (y_pick rfl rfl rfl) ?_)
    refine Hd.nil ?_
    exact Hd.mend (by repeat (first | exact trivial | refine ⟨rfl, ?_⟩)) (Ent.sep enn)
  · intro hg2_12
    try simp only [decide_eq_true_eq, decide_eq_false_iff_not, Bool.and_eq_true, Bool.or_eq_true, Bool.and_eq_false_iff, Bool.or_eq_false_iff, Bool.not_eq_true', Bool.not_eq_false', Bool.not_eq_true, Bool.not_eq_false, Int.not_lt, Int.not_le, Decidable.not_not, ne_eq] at hg2_12
    simp only [List.take]
    refine Hd.yg rfl rfl (y_move rfl) ?_
    refine Hd.yg rfl rfl (y_nilp rfl) ?_
    first | (refine Hd.yg rfl rfl (y_field' (q := 0) (ft := 56) Try.underlying58 rfl sz56 rfl rfl) ?_) | (refine Hd.yg rfl rfl (y_fieldR (q := 0) (ft := 56) Try.underlying58 rfl sz56 rfl rfl) ?_)
    first | (refine Hd.yg rfl rfl (y_load1 ag56 rfl (Rd.pt1 pkk (by (first | rfl)))) ?_) | (refine Hd.yg rfl rfl (y_load1 ag56 rfl (Rd.seg1 pkk (by (first | rfl)))) ?_) | (refine Hd.yg rfl rfl (y_loadR1 ag56 rfl (by (first | exact RdS.own pkk)) (by (first | rfl))) ?_)
    refine Hd.yg rfl rfl (y_move rfl) ?_
    have hvk := hkx (by omega)
    refine Hd.yg rfl rfl (y_idxR (j := k) Try.underlying56 sz61 rfl (by exact congrArg (fun z => some (Value.int .i64 z)) hvk.1) hvk.2.1 (RdS.own (ad := r.1) (us := l.flatMap encT) pkk)) ?_
    first | (refine Hd.yg rfl rfl (y_field' (q := 2) (ft := 4) Try.underlying61 rfl sz4 rfl rfl) ?_) | (refine Hd.yg rfl rfl (y_fieldR (q := 2) (ft := 4) Try.underlying61 rfl sz4 rfl rfl) ?_)
    refine Hd.yg rfl rfl (y_loadR1 ag4 rfl (RdS.own (ad := r.1) (us := l.flatMap encT) pkk) (flat_cells encT 5 (fun _ => rfl) hvk.2.2 2 _ rfl)) ?_
    refine Hd.yg rfl rfl (y_not rfl) ?_
    first | (refine Hd.yv (y_pickT rfl rfl) ?_) | (refine Hd.yv (y_pickF rfl rfl) ?_) | (refine Hd.yv (y_pickb rfl rfl rfl) ?_) | (refine Hd.yv (y_pick rfl rfl rfl) ?_)
    refine Hd.nil ?_
    exact Hd.mend (by repeat (first | exact trivial | refine ⟨rfl, ?_⟩)) (Ent.sep enn)
  simp only [List.drop]
  refine Hd.nil ?_
  refine Hd.slots [(0, _), (5, _), (22, _)] ⟨rfl, rfl, rfl, trivial⟩ ?_
  refine Hd.toK hK4 ?_
  refine Hd.cond rfl (fun hc0 => ?_) (fun hc0 => ?_)
  ·
    try simp only [decide_eq_true_eq, decide_eq_false_iff_not, Bool.and_eq_true, Bool.or_eq_true, Bool.and_eq_false_iff, Bool.or_eq_false_iff, Bool.not_eq_true', Bool.not_eq_false', Bool.not_eq_true, Bool.not_eq_false, Int.not_lt, Int.not_le, Decidable.not_not, ne_eq] at hc0
    refine Hd.seq (fun K5 hK5 => ?_)
    refine Hd.region ?_
    refine Hd.yv (y_assign rfl) ?_
    refine Hd.nil ?_
    refine Hd.slots [(4, _)] ⟨rfl, trivial⟩ ?_
    refine Hd.toK hK5 ?_
    refine Hd.ret ?_
    refine Hd.thenRet ?_
    clear hK1 hK2 hK3 hK4 hK5
    have hno : ∀ y ∈ l, y.pn = true → y.id ≠ id := by
      rcases hfx with ⟨_, h⟩ | ⟨pre, y, post, ha, e, h1, h2⟩
      · exact fun y hy _ => noO h y hy
      · have h3 := hkx (by omega)
        have : k = pre.length := by omega
        subst this
        rw [h2] at h3
        obtain rfl := Option.some.inj h3.2.2
        exact ha.off (by rcases hc0 with h | h; · omega
                         · simpa using h)
    have hc := hr.rel.cutB hno
    rw [hc.2]
    exact Hd.ret1 rfl l rfl (Ent.sep (.pure ⟨⟨by rw [hc.1]; exact hr.rel, hr.len, hr.nx⟩, rfl⟩ enn))
  ·
    try simp only [decide_eq_true_eq, decide_eq_false_iff_not, Bool.and_eq_true, Bool.or_eq_true, Bool.and_eq_false_iff, Bool.or_eq_false_iff, Bool.not_eq_true', Bool.not_eq_false', Bool.not_eq_true, Bool.not_eq_false, Int.not_lt, Int.not_le, Decidable.not_not, ne_eq] at hc0
    obtain ⟨hv0, hpn⟩ : ¬ v < 0 ∧ x.pn = true := by
      refine ⟨by omega, ?_⟩
      have h := hc0.2
      simpa using h
    obtain ⟨hvk, hkl, hkg⟩ := hkx hv0
    obtain ⟨pre, post, hat, hkp⟩ : ∃ pre post, AtO id l pre x post ∧ k = pre.length := by
      rcases hfx with ⟨e, _⟩ | ⟨pre, y, post, ha, e, h1, h2⟩
      · omega
      · have : k = pre.length := by omega
        subst this
        rw [h2] at hkg
        obtain rfl := Option.some.inj hkg
        exact ⟨pre, post, ha, rfl⟩
    rw [hvk]
    refine Hd.skip ?_
    refine Hd.toK hK3 ?_
    refine Hd.seq (fun K6 hK6 => ?_)
    refine Hd.region ?_
    refine Hd.yv (y_move rfl) ?_
    refine Hd.yv (y_nilp rfl) ?_
    first | (refine Hd.yv (y_field' (q := 0) (ft := 56) Try.underlying58 rfl sz56 rfl rfl) ?_) | (refine Hd.yv (y_fieldR (q := 0) (ft := 56) Try.underlying58 rfl sz56 rfl rfl) ?_)
    first | (refine Hd.yv (y_load1 ag56 rfl (Rd.pt1 pkk (by (first | rfl)))) ?_) | (refine Hd.yv (y_load1 ag56 rfl (Rd.seg1 pkk (by (first | rfl)))) ?_) | (refine Hd.yv (y_loadR1 ag56 rfl (by (first | exact RdS.own pkk)) (by (first | rfl))) ?_)
    refine Hd.yv (y_move rfl) ?_
    first | (refine Hd.yv (y_idxS Try.underlying56 sz61 rfl rfl (by first | omega | decide)) ?_) | (refine Hd.yv (y_idxR Try.underlying56 sz61 rfl rfl (by first | omega | decide) (by (first | exact RdS.own pkk))) ?_)
    refine Hd.yv (y_loadRn (vs := [_, _, _, _, _]) ag61 rfl (RdS.own (ad := r.1) (us := l.flatMap encT) pkk) (flat_cells encT 5 (fun _ => rfl) hkg) (by exact sz61) (by simp)) ?_
    refine Hd.alloc zr61 (fun b6 => ?_)
    refine Hd.storeA (us := encT x) sz61 rfl rfl rfl (encT_one _) pkk (by exact rfl) ?_
    refine Hd.nil ?_
    refine Hd.slots [(0, _), (5, _), (6, _)] ⟨rfl, rfl, rfl, trivial⟩ ?_
    refine Hd.toK hK6 ?_
    refine Hd.seq (fun K7 hK7 => ?_)
    refine Hd.region ?_
    first | (refine Hd.yv (y_field' (q := 2) (ft := 4) Try.underlying61 rfl sz4 rfl rfl) ?_) | (refine Hd.yv (y_fieldR (q := 2) (ft := 4) Try.underlying61 rfl sz4 rfl rfl) ?_)
    first | (refine Hd.store1 sz4 rfl rfl rfl pkk (by first | decide | (simp; done) | (simp; omega)) ?_) | (refine Hd.storeG1 sz4 rfl rfl rfl pkk (by first | decide | (simp; done) | (simp; omega)) ?_) | (refine Hd.storeO1 sz4 rfl rfl rfl pkk (by first | omega | (simp; done) | (simp; omega)) ?_)
    try simp only [List.set_cons_zero, List.set_cons_succ]
    refine Hd.nil ?_
    refine Hd.slots [(0, _), (5, _), (6, _)] ⟨rfl, rfl, rfl, trivial⟩ ?_
    refine Hd.toK hK7 ?_
    refine Hd.seq (fun K8 hK8 => ?_)
    refine Hd.heap (pt b6 (encT (offO x)) 61 :: TrL b l nx lim r L) (Ent.sep (.eq pkk (pt_eq (by rfl)) enn)) ?_
    refine Hd.drawsH ([TrH b l.length r nx lim, OwT r.1 l.length r.2 l, pt b6 (encT (offO x)) 61]) (fun j => !([7].contains j)) mixed ?_
    simp only [List.length, Nat.zero_add, Nat.reduceAdd]
    refine Hd.takeH 0 rfl (by kernel_rfl) (by kernel_rfl) (by kernel_rfl) (by kernel_rfl) (y_move rfl) (fun _ _ => rfl) (Ent.sep enn) ?_
    refine Hd.takeH 1 rfl (by kernel_rfl) (by kernel_rfl) (by kernel_rfl) (by kernel_rfl) (y_nilp rfl) (fun _ _ => rfl) (Ent.sep enn) ?_
    first | (refine Hd.takeH 2 rfl (by kernel_rfl) (by kernel_rfl) (by kernel_rfl) (by kernel_rfl) (y_field' (q := 0) (ft := 56) Try.underlying58 rfl sz56 rfl rfl) (fun _ _ => rfl) (Ent.sep enn) ?_) | (refine Hd.takeH 2 rfl (by kernel_rfl) (by kernel_rfl) (by kernel_rfl) (by kernel_rfl) (y_fieldR (q := 0) (ft := 56) Try.underlying58 rfl sz56 rfl rfl) (fun _ _ => rfl) (Ent.sep enn) ?_)
    first | (refine Hd.takeH 3 rfl (by kernel_rfl) (by kernel_rfl) (by kernel_rfl) (by kernel_rfl) (y_load1 ag56 rfl (Rd.pt1 pkk (by (first | rfl)))) (fun _ _ => rfl) (Ent.sep enn) ?_) | (refine Hd.takeH 3 rfl (by kernel_rfl) (by kernel_rfl) (by kernel_rfl) (by kernel_rfl) (y_load1 ag56 rfl (Rd.seg1 pkk (by (first | rfl)))) (fun _ _ => rfl) (Ent.sep enn) ?_) | (refine Hd.takeH 3 rfl (by kernel_rfl) (by kernel_rfl) (by kernel_rfl) (by kernel_rfl) (y_loadR1 ag56 rfl (by (first | exact RdS.own pkk)) (by (first | rfl))) (fun _ _ => rfl) (Ent.sep enn) ?_)
    refine Hd.takeH 4 rfl (by kernel_rfl) (by kernel_rfl) (by kernel_rfl) (by kernel_rfl) (y_move rfl) (fun _ _ => rfl) (Ent.sep enn) ?_
    first | (refine Hd.takeH 5 rfl (by kernel_rfl) (by kernel_rfl) (by kernel_rfl) (by kernel_rfl) (y_loadn (us := [_, _, _, _, _]) ag61 rfl (Rd.pt pkk (by (first | (intro j v e; rcases j with _|_|_|_|_|_|_|_|_|_|_|_|j <;> first | exact e | exact absurd e (by simp))))) (by exact sz61)) (fun _ _ => rfl) (Ent.sep enn) ?_) | (refine Hd.takeH 5 rfl (by kernel_rfl) (by kernel_rfl) (by kernel_rfl) (by kernel_rfl) (y_loadn (us := [_, _, _, _, _]) ag61 rfl (Rd.seg pkk (by (first | (intro j v e; rcases j with _|_|_|_|_|_|_|_|_|_|_|_|j <;> first | exact e | exact absurd e (by simp))))) (by exact sz61)) (fun _ _ => rfl) (Ent.sep enn) ?_) | (refine Hd.takeH 5 rfl (by kernel_rfl) (by kernel_rfl) (by kernel_rfl) (by kernel_rfl) (y_loadRn ag61 rfl (by (first | exact RdS.own pkk)) (by (first | (intro j v e; rcases j with _|_|_|_|_|_|_|_|_|_|_|_|j <;> first | exact e | exact absurd e (by simp)))) (by exact sz61) (by simp)) (fun _ _ => rfl) (Ent.sep enn) ?_)
    first | (refine Hd.takeH 6 rfl (by kernel_rfl) (by kernel_rfl) (by kernel_rfl) (by kernel_rfl) (y_idxS Try.underlying56 sz61 rfl rfl (by first | omega | decide)) (fun _ _ => rfl) (Ent.sep enn) ?_) | (refine Hd.takeH 6 rfl (by kernel_rfl) (by kernel_rfl) (by kernel_rfl) (by kernel_rfl) (y_idxR Try.underlying56 sz61 rfl rfl (by first | omega | decide) (by (first | exact RdS.own pkk))) (fun _ _ => rfl) (Ent.sep enn) ?_)
    refine Hd.onlyH 7 rfl (by kernel_rfl) ?_
    refine Hd.storeO (vs := encT (offO x)) sz61 rfl rfl rfl (encT_one _) pkk (by rw [flat_lenT]; simp only [List.length]; omega) (by simp) ?_
    refine Hd.nil ?_
    refine Hd.thenN ?_
    refine Hd.heldN (J := (fun j => !([7].contains j))) (i := 7) rfl ?_
    refine Hd.endH (by kernel_rfl) ?_
    rw [show (l.flatMap encT).take (k * 5) ++ encT (offO x) ++ (l.flatMap encT).drop (k * 5 + (encT (offO x)).length) = (l.set k (offO x)).flatMap encT from flat_setT hkl]
    refine Hd.slots [] trivial ?_
    refine Hd.toK hK8 ?_
    refine Hd.seq (fun K9 hK9 => ?_)
    refine Hd.region ?_
    refine Hd.yv (y_assign rfl) ?_
    refine Hd.nil ?_
    refine Hd.slots [(4, _)] ⟨rfl, trivial⟩ ?_
    refine Hd.toK hK9 ?_
    refine Hd.ret ?_
    clear hK1 hK2 hK3 hK4 hK6 hK7 hK8 hK9
    have hon := hr.rel.on hat hpn hF
    have hcut := hr.rel.cutA hat
    rw [← hkp] at hcut
    rw [hon]
    exact Hd.ret1 rfl (l.set k (offO x)) rfl (Ent.sep (.pure ⟨⟨hcut, by rw [List.length_set]; exact hr.len, hr.nx⟩, List.length_set ..⟩ (.eq pkk (pt_eq (by rw [List.length_set])) (.eq pkk (own_eq3 (List.length_set ..).symm rfl rfl) enn))))
theorem remO_step {l : List On} {i : Nat} {x : On} (id : Int) (h : l[i]? = some x) : remO id (l.take (i + 1)) = if x.id ≠ id then remO id (l.take i) ++ [x] else remO id (l.take i) := by
  rw [take_succ h]; unfold remO; rw [List.filter_append]
  by_cases e : x.id = id <;> simp [e]
theorem remO_len (id : Int) (l : List On) : (remO id l).length ≤ l.length := List.length_filter_le _ _
set_option maxHeartbeats 2000000 in
theorem rtforget_ct (L : List SP) (b : Nat) (s : List It) (nx : Int) (af : AF) (lim : Int) (id : Int) : Ct Try.prog 28 #[.pointer (some ⟨b, 0, none⟩), .int .i64 id] (TrA b s nx af lim :: L) (fun _ : Unit => .tuple #[]) (fun _ : Unit => TrA b (remI id s) nx (delA af id) lim :: L) := by
  refine Ct.of (vs := [.pointer (some ⟨b, 0, none⟩), .int .i64 id]) Try.func28 rfl rfl [(0, .pointer (some ⟨b, 0, none⟩)), (1, .int .i64 id)] (by repeat (first | exact trivial | refine ⟨rfl, ?_⟩)) ?_
  intro E
  show Hd E 39 _ _ _ _
  refine Hd.exs .here ?_
  rintro ⟨r, l⟩
  simp only [List.cons_append, List.nil_append]
  refine Hd.pure (fun hr => ?_)
  have hll := hr.len
  have hnx := hr.nx
  refine Hd.seq (fun K1 hK1 => ?_)
  refine Hd.region ?_
  refine Hd.yv (y_assign rfl) ?_
  refine Hd.nil ?_
  refine Hd.slots [(0, _), (1, _), (4, _)] ⟨rfl, rfl, rfl, trivial⟩ ?_
  refine Hd.toK hK1 ?_
  refine Hd.seq (fun K2 hK2 => ?_)
  refine Hd.seq (fun K3 hK3 => ?_)
  refine Hd.region ?_
  refine Hd.yv (y_assign rfl) ?_
  refine Hd.nil ?_
  refine Hd.slots [(0, _), (1, _), (4, _), (5, _)] ⟨rfl, rfl, rfl, rfl, trivial⟩ ?_
  refine Hd.toK hK3 ?_
  refine Hd.block ?_
  refine Hd.ownNil 61 5 none ?_
  refine Hd.loopK (ι := Nat × Option Addr × Nat) [(0, _), (1, _)] (fun q_ => [(4, .slice q_.2.1 (remO id (l.take q_.1)).length q_.2.2), (5, .int .i64 (q_.1 : Int))]) (fun q_ => pu (q_.1 ≤ l.length) :: OwT q_.2.1 (remO id (l.take q_.1)).length q_.2.2 (remO id (l.take q_.1)) :: TrL b l nx lim r L) (fun q_ => l.length - q_.1) (0, none, 0) (by repeat (first | exact trivial | refine ⟨rfl, ?_⟩)) (by repeat (first | exact trivial | refine ⟨rfl, ?_⟩)) (Ent.sep (.pure (by first | omega | (simp; done) | (simp; omega) | exact ⟨by simp, by simp⟩) enn)) ?_
  rintro ⟨i, ad, cp⟩
  try dsimp only
  refine Hd.pure (fun hp0 => ?_)
  try dsimp only at hp0
  refine Hd.seq (fun K4 hK4 => ?_)
  refine Hd.seq (fun K5 hK5 => ?_)
  refine Hd.region ?_
  refine Hd.yv (y_move rfl) ?_
  refine Hd.yv (y_move rfl) ?_
  refine Hd.yv (y_nilp rfl) ?_
  first | (refine Hd.yv (y_field' (q := 0) (ft := 56) Try.underlying58 rfl sz56 rfl rfl) ?_) | (refine Hd.yv (y_fieldR (q := 0) (ft := 56) Try.underlying58 rfl sz56 rfl rfl) ?_)
  first | (refine Hd.yv (y_load1 ag56 rfl (Rd.pt1 pkk (by (first | rfl)))) ?_) | (refine Hd.yv (y_load1 ag56 rfl (Rd.seg1 pkk (by (first | rfl)))) ?_) | (refine Hd.yv (y_loadR1 ag56 rfl (by (first | exact RdS.own pkk)) (by (first | rfl))) ?_)
  refine Hd.yv (y_len Try.underlying56 rfl) ?_
  refine Hd.yv (y_lss rfl rfl) ?_
  refine Hd.nil ?_
  refine Hd.slots [(0, _), (1, _), (4, _), (5, _), (12, _)] ⟨rfl, rfl, rfl, rfl, rfl, trivial⟩ ?_
  refine Hd.toK hK5 ?_
  refine Hd.cond rfl (fun hc0 => ?_) (fun hc0 => ?_)
  ·
    try simp only [decide_eq_true_eq, decide_eq_false_iff_not, Bool.and_eq_true, Bool.or_eq_true, Bool.and_eq_false_iff, Bool.or_eq_false_iff, Bool.not_eq_true', Bool.not_eq_false', Bool.not_eq_true, Bool.not_eq_false, Int.not_lt, Int.not_le, Decidable.not_not, ne_eq] at hc0
    have hi : i < l.length := by omega
    have hgi : l[i]? = some (gO l i) := gO_at hi
    have hst := remO_step id hgi
    have hrl := remO_len id (l.take i)
    have htl : (l.take i).length = i := by rw [List.length_take]; omega
    refine Hd.skip ?_
    refine Hd.toK hK4 ?_
    refine Hd.seq (fun K6 hK6 => ?_)
    refine Hd.block ?_
    refine Hd.seq (fun K7 hK7 => ?_)
    refine Hd.region ?_
    refine Hd.yv (y_move rfl) ?_
    refine Hd.yv (y_nilp rfl) ?_
    first | (refine Hd.yv (y_field' (q := 0) (ft := 56) Try.underlying58 rfl sz56 rfl rfl) ?_) | (refine Hd.yv (y_fieldR (q := 0) (ft := 56) Try.underlying58 rfl sz56 rfl rfl) ?_)
    first | (refine Hd.yv (y_load1 ag56 rfl (Rd.pt1 pkk (by (first | rfl)))) ?_) | (refine Hd.yv (y_load1 ag56 rfl (Rd.seg1 pkk (by (first | rfl)))) ?_) | (refine Hd.yv (y_loadR1 ag56 rfl (by (first | exact RdS.own pkk)) (by (first | rfl))) ?_)
    refine Hd.yv (y_move rfl) ?_
    first | (refine Hd.yv (y_idxS Try.underlying56 sz61 rfl rfl (by first | omega | decide)) ?_) | (refine Hd.yv (y_idxR Try.underlying56 sz61 rfl rfl (by first | omega | decide) (by (first | exact RdS.own pkk))) ?_)
    first | (refine Hd.yv (y_field' (q := 0) (ft := 3) Try.underlying61 rfl sz3 rfl rfl) ?_) | (refine Hd.yv (y_fieldR (q := 0) (ft := 3) Try.underlying61 rfl sz3 rfl rfl) ?_)
    refine Hd.yv (y_loadR1 ag3 rfl (RdS.own (ad := r.1) (us := l.flatMap encT) pkk) (flat_cells encT 5 (fun _ => rfl) hgi 0 _ rfl)) ?_
    refine Hd.yv (y_move rfl) ?_
    refine Hd.yv (y_neq rfl rfl) ?_
    refine Hd.nil ?_
    refine Hd.slots [(0, _), (1, _), (4, _), (5, _), (24, _)] ⟨rfl, rfl, rfl, rfl, rfl, trivial⟩ ?_
    refine Hd.toK hK7 ?_
    refine Hd.cond rfl (fun hc1 => ?_) (fun hc1 => ?_)
    ·
      try simp only [decide_eq_true_eq, decide_eq_false_iff_not, Bool.and_eq_true, Bool.or_eq_true, Bool.and_eq_false_iff, Bool.or_eq_false_iff, Bool.not_eq_true', Bool.not_eq_false', Bool.not_eq_true, Bool.not_eq_false, Int.not_lt, Int.not_le, Decidable.not_not, ne_eq] at hc1
      rw [if_pos hc1] at hst
      have hln : (remO id (l.take i)).length + 1 = (remO id (l.take (i + 1))).length := by rw [hst, List.length_append]; rfl
      refine Hd.region ?_
      refine Hd.yv (y_move rfl) ?_
      refine Hd.yv (y_move rfl) ?_
      refine Hd.yv (y_nilp rfl) ?_
      first | (refine Hd.yv (y_field' (q := 0) (ft := 56) Try.underlying58 rfl sz56 rfl rfl) ?_) | (refine Hd.yv (y_fieldR (q := 0) (ft := 56) Try.underlying58 rfl sz56 rfl rfl) ?_)
      first | (refine Hd.yv (y_load1 ag56 rfl (Rd.pt1 pkk (by (first | rfl)))) ?_) | (refine Hd.yv (y_load1 ag56 rfl (Rd.seg1 pkk (by (first | rfl)))) ?_) | (refine Hd.yv (y_loadR1 ag56 rfl (by (first | exact RdS.own pkk)) (by (first | rfl))) ?_)
      refine Hd.yv (y_move rfl) ?_
      first | (refine Hd.yv (y_idxS Try.underlying56 sz61 rfl rfl (by first | omega | decide)) ?_) | (refine Hd.yv (y_idxR Try.underlying56 sz61 rfl rfl (by first | omega | decide) (by (first | exact RdS.own pkk))) ?_)
      refine Hd.yv (y_loadRn (vs := [_, _, _, _, _]) ag61 rfl (RdS.own (ad := r.1) (us := l.flatMap encT) pkk) (flat_cells encT 5 (fun _ => rfl) hgi) (by exact sz61) (by simp)) ?_
      refine Hd.bslice (vs := [(0, _)]) rfl (by first | exact bs28_33 .. | kernel_rfl) (fun b33 => ?_)
      refine Hd.append Try.underlying56 ty61 rfl rfl rfl pkk (by first | exact RdS.rd (Rd.pt pkk (fun j v e => by simpa using e)) rfl | (first | exact RdS.own pkk)) (by first | (simp [Value.oneCell']; done) | assumption) (by first | (simp only [maxLen]; omega) | assumption) (by omega) (fun ad34 cap34 => ?_)
      refine Hd.yv (y_assign rfl) ?_
      refine Hd.nil ?_
      refine Hd.slots [(0, _), (1, _), (4, _), (5, _)] ⟨rfl, rfl, rfl, rfl, trivial⟩ ?_
      refine Hd.inB ?_
      refine Hd.toK hK6 ?_
      refine Hd.region ?_
      refine Hd.yv (y_move rfl) ?_
      first | (refine Hd.yv (y_addn rfl rfl (by simp only [InK]; omega)) ?_) | (refine Hd.yv (y_add rfl rfl) ?_)
      refine Hd.yv (y_assign rfl) ?_
      refine Hd.nil ?_
      refine Hd.slots [(0, _), (1, _), (4, _), (5, _)] ⟨rfl, rfl, rfl, rfl, trivial⟩ ?_
      clear hK1 hK2 hK3 hK4 hK5 hK6 hK7
      refine Hd.thenN ?_
      rw [hln]; refine Hd.heap (OwT ad34 (remO id (l.take (i + 1))).length cap34 (remO id (l.take (i + 1))) :: TrL b l nx lim r L) (Ent.sep (.eq pkk (own_eq3 rfl rfl (show (remO id (l.take i)).flatMap encT ++ encT (gO l i) = _ by rw [hst, List.flatMap_append]; simp)) enn)) ?_
      exact Hd.again (i + 1, ad34, cap34) (by first | omega | (simp only; omega) | (simp; omega)) (by repeat (first | exact trivial | refine ⟨rfl, ?_⟩)) (Ent.sep (.pure (by first | omega | (simp; done) | (simp; omega) | (dsimp only; omega)) enn))
    ·
      try simp only [decide_eq_true_eq, decide_eq_false_iff_not, Bool.and_eq_true, Bool.or_eq_true, Bool.and_eq_false_iff, Bool.or_eq_false_iff, Bool.not_eq_true', Bool.not_eq_false', Bool.not_eq_true, Bool.not_eq_false, Int.not_lt, Int.not_le, Decidable.not_not, ne_eq] at hc1
      have hst2 : remO id (l.take i) = remO id (l.take (i + 1)) := by rw [hst, if_neg (by simpa using hc1)]
      rw [hst2]
      refine Hd.skip ?_
      refine Hd.inB ?_
      refine Hd.toK hK6 ?_
      refine Hd.region ?_
      refine Hd.yv (y_move rfl) ?_
      first | (refine Hd.yv (y_addn rfl rfl (by simp only [InK]; omega)) ?_) | (refine Hd.yv (y_add rfl rfl) ?_)
      refine Hd.yv (y_assign rfl) ?_
      refine Hd.nil ?_
      refine Hd.slots [(0, _), (1, _), (4, _), (5, _)] ⟨rfl, rfl, rfl, rfl, trivial⟩ ?_
      clear hK1 hK2 hK3 hK4 hK5 hK6 hK7
      refine Hd.thenN ?_
      exact Hd.again (i + 1, ad, cp) (by first | omega | (simp only; omega) | (simp; omega)) (by repeat (first | exact trivial | refine ⟨rfl, ?_⟩)) (Ent.sep (.pure (by first | omega | (simp; done) | (simp; omega) | (dsimp only; omega)) enn))
  ·
    try simp only [decide_eq_true_eq, decide_eq_false_iff_not, Bool.and_eq_true, Bool.or_eq_true, Bool.and_eq_false_iff, Bool.or_eq_false_iff, Bool.not_eq_true', Bool.not_eq_false', Bool.not_eq_true, Bool.not_eq_false, Int.not_lt, Int.not_le, Decidable.not_not, ne_eq] at hc0
    have hall : l.take i = l := List.take_of_length_le (by omega)
    rw [hall]
    refine Hd.exit ?_
    refine Hd.thenExit ?_
    refine Hd.thenExit ?_
    refine Hd.inBexit ?_
    refine Hd.toK hK2 ?_
    refine Hd.region ?_
    refine Hd.yv (y_move rfl) ?_
    refine Hd.yv (y_move rfl) ?_
    refine Hd.yv (y_nilp rfl) ?_
    first | (refine Hd.yv (y_field' (q := 0) (ft := 56) Try.underlying58 rfl sz56 rfl rfl) ?_) | (refine Hd.yv (y_fieldR (q := 0) (ft := 56) Try.underlying58 rfl sz56 rfl rfl) ?_)
    first | (refine Hd.store1 sz56 rfl rfl rfl pkk (by first | decide | (simp; done) | (simp; omega)) ?_) | (refine Hd.storeG1 sz56 rfl rfl rfl pkk (by first | decide | (simp; done) | (simp; omega)) ?_) | (refine Hd.storeO1 sz56 rfl rfl rfl pkk (by first | omega | (simp; done) | (simp; omega)) ?_)
    try simp only [List.set_cons_zero, List.set_cons_succ]
    refine Hd.nil ?_
    refine Hd.slots [] trivial ?_
    clear hK1 hK2 hK3 hK4 hK5
    have hrl := remO_len id l
    exact Hd.end0 rfl () rfl (Ent.sep (.ex ((ad, cp), remO id l) (.pure ⟨hr.rel.del id, by show ((remO id l).length : Int) ≤ nx; omega, hr.nx⟩ (.eq pkk (pt_eq (by rfl)) enn))))
abbrev cn (l : List On) : Nat := (l.filter On.pn).length
theorem cn_step {l : List On} {i : Nat} {x : On} (h : l[i]? = some x) : cn (l.take (i + 1)) = cn (l.take i) + if x.pn = true then 1 else 0 := by
  rw [take_succ h]; unfold cn; rw [List.filter_append, List.length_append]
  cases e : x.pn <;> simp [e]
set_option maxHeartbeats 2000000 in
theorem rtlen_ct (L : List SP) (b : Nat) (nx lim : Int) (l : List On) (r : Option Addr × Nat) (hl : l.length ≤ 1000000) : Ct Try.prog 32 #[.pointer (some ⟨b, 0, none⟩)] (TrL b l nx lim r L) (fun _ : Unit => .int .i64 (cn l : Nat)) (fun _ : Unit => TrL b l nx lim r L) := by
  refine Ct.of (vs := [.pointer (some ⟨b, 0, none⟩)]) Try.func32 rfl rfl [(0, .pointer (some ⟨b, 0, none⟩))] (by repeat (first | exact trivial | refine ⟨rfl, ?_⟩)) ?_
  intro E
  show Hd E 25 _ _ _ _
  refine Hd.seq (fun K1 hK1 => ?_)
  refine Hd.region ?_
  refine Hd.yv (y_assign rfl) ?_
  refine Hd.nil ?_
  refine Hd.slots [(0, _)] ⟨rfl, trivial⟩ ?_
  refine Hd.toK hK1 ?_
  refine Hd.seq (fun K2 hK2 => ?_)
  refine Hd.region ?_
  refine Hd.yv (y_assign rfl) ?_
  refine Hd.nil ?_
  refine Hd.slots [(0, _), (3, _)] ⟨rfl, rfl, trivial⟩ ?_
  refine Hd.toK hK2 ?_
  refine Hd.seq (fun K3 hK3 => ?_)
  refine Hd.seq (fun K4 hK4 => ?_)
  refine Hd.region ?_
  refine Hd.yv (y_assign rfl) ?_
  refine Hd.nil ?_
  refine Hd.slots [(0, _), (3, _), (4, _)] ⟨rfl, rfl, rfl, trivial⟩ ?_
  refine Hd.toK hK4 ?_
  refine Hd.block ?_
  refine Hd.loopK (ι := Nat) [(0, _)] (fun i => [(3, .int .i64 (cn (l.take i) : Nat)), (4, .int .i64 (i : Int))]) (fun i => pu (i ≤ l.length) :: TrL b l nx lim r L) (fun i => l.length - i) 0 (by repeat (first | exact trivial | refine ⟨rfl, ?_⟩)) (by repeat (first | exact trivial | refine ⟨rfl, ?_⟩)) (Ent.sep (.pure (by first | omega | (simp; done) | (simp; omega) | exact ⟨by simp, by simp⟩) enn)) ?_
  intro i
  try dsimp only
  refine Hd.pure (fun hp0 => ?_)
  try dsimp only at hp0
  refine Hd.seq (fun K5 hK5 => ?_)
  refine Hd.seq (fun K6 hK6 => ?_)
  refine Hd.region ?_
  refine Hd.yv (y_move rfl) ?_
  refine Hd.yv (y_move rfl) ?_
  refine Hd.yv (y_nilp rfl) ?_
  first | (refine Hd.yv (y_field' (q := 0) (ft := 56) Try.underlying58 rfl sz56 rfl rfl) ?_) | (refine Hd.yv (y_fieldR (q := 0) (ft := 56) Try.underlying58 rfl sz56 rfl rfl) ?_)
  first | (refine Hd.yv (y_load1 ag56 rfl (Rd.pt1 pkk (by (first | rfl)))) ?_) | (refine Hd.yv (y_load1 ag56 rfl (Rd.seg1 pkk (by (first | rfl)))) ?_) | (refine Hd.yv (y_loadR1 ag56 rfl (by (first | exact RdS.own pkk)) (by (first | rfl))) ?_)
  refine Hd.yv (y_len Try.underlying56 rfl) ?_
  refine Hd.yv (y_lss rfl rfl) ?_
  refine Hd.nil ?_
  refine Hd.slots [(0, _), (3, _), (4, _), (11, _)] ⟨rfl, rfl, rfl, rfl, trivial⟩ ?_
  refine Hd.toK hK6 ?_
  refine Hd.cond rfl (fun hc0 => ?_) (fun hc0 => ?_)
  ·
    try simp only [decide_eq_true_eq, decide_eq_false_iff_not, Bool.and_eq_true, Bool.or_eq_true, Bool.and_eq_false_iff, Bool.or_eq_false_iff, Bool.not_eq_true', Bool.not_eq_false', Bool.not_eq_true, Bool.not_eq_false, Int.not_lt, Int.not_le, Decidable.not_not, ne_eq] at hc0
    have hi : i < l.length := by omega
    have hgi : l[i]? = some (gO l i) := gO_at hi
    have hst := cn_step hgi
    have hcl : cn (l.take i) ≤ i := Nat.le_trans (List.length_filter_le _ _) (by rw [List.length_take]; omega)
    refine Hd.skip ?_
    refine Hd.toK hK5 ?_
    refine Hd.seq (fun K7 hK7 => ?_)
    refine Hd.block ?_
    refine Hd.seq (fun K8 hK8 => ?_)
    refine Hd.region ?_
    refine Hd.yv (y_move rfl) ?_
    refine Hd.yv (y_nilp rfl) ?_
    first | (refine Hd.yv (y_field' (q := 0) (ft := 56) Try.underlying58 rfl sz56 rfl rfl) ?_) | (refine Hd.yv (y_fieldR (q := 0) (ft := 56) Try.underlying58 rfl sz56 rfl rfl) ?_)
    first | (refine Hd.yv (y_load1 ag56 rfl (Rd.pt1 pkk (by (first | rfl)))) ?_) | (refine Hd.yv (y_load1 ag56 rfl (Rd.seg1 pkk (by (first | rfl)))) ?_) | (refine Hd.yv (y_loadR1 ag56 rfl (by (first | exact RdS.own pkk)) (by (first | rfl))) ?_)
    refine Hd.yv (y_move rfl) ?_
    first | (refine Hd.yv (y_idxS Try.underlying56 sz61 rfl rfl (by first | omega | decide)) ?_) | (refine Hd.yv (y_idxR Try.underlying56 sz61 rfl rfl (by first | omega | decide) (by (first | exact RdS.own pkk))) ?_)
    first | (refine Hd.yv (y_field' (q := 2) (ft := 4) Try.underlying61 rfl sz4 rfl rfl) ?_) | (refine Hd.yv (y_fieldR (q := 2) (ft := 4) Try.underlying61 rfl sz4 rfl rfl) ?_)
    refine Hd.yv (y_loadR1 ag4 rfl (RdS.own (ad := r.1) (us := l.flatMap encT) pkk) (flat_cells encT 5 (fun _ => rfl) hgi 2 _ rfl)) ?_
    refine Hd.nil ?_
    refine Hd.slots [(0, _), (3, _), (4, _), (21, _)] ⟨rfl, rfl, rfl, rfl, trivial⟩ ?_
    refine Hd.toK hK8 ?_
    refine Hd.cond rfl (fun hc1 => ?_) (fun hc1 => ?_)
    ·
      try simp only [decide_eq_true_eq, decide_eq_false_iff_not, Bool.and_eq_true, Bool.or_eq_true, Bool.and_eq_false_iff, Bool.or_eq_false_iff, Bool.not_eq_true', Bool.not_eq_false', Bool.not_eq_true, Bool.not_eq_false, Int.not_lt, Int.not_le, Decidable.not_not, ne_eq] at hc1
      rw [if_pos hc1] at hst
      refine Hd.region ?_
      refine Hd.yv (y_move rfl) ?_
      first | (refine Hd.yv (y_to (v' := .int .i64 ((cn (l.take (i + 1)) : Nat) : Int)) (y_addn rfl rfl (by simp only [InK]; omega)) (by (rw [hst]; rfl))) ?_) | (refine Hd.yv (y_to (v' := .int .i64 ((cn (l.take (i + 1)) : Nat) : Int)) (y_add rfl rfl) (by (rw [hst]; rfl))) ?_)
      refine Hd.yv (y_assign rfl) ?_
      refine Hd.nil ?_
      refine Hd.slots [(0, _), (3, _), (4, _)] ⟨rfl, rfl, rfl, trivial⟩ ?_
      refine Hd.inB ?_
      refine Hd.toK hK7 ?_
      refine Hd.region ?_
      refine Hd.yv (y_move rfl) ?_
      first | (refine Hd.yv (y_addn rfl rfl (by simp only [InK]; omega)) ?_) | (refine Hd.yv (y_add rfl rfl) ?_)
      refine Hd.yv (y_assign rfl) ?_
      refine Hd.nil ?_
      refine Hd.slots [(0, _), (3, _), (4, _)] ⟨rfl, rfl, rfl, trivial⟩ ?_
      clear hK1 hK2 hK3 hK4 hK5 hK6 hK7 hK8
      refine Hd.thenN ?_
      exact Hd.again (i + 1) (by first | omega | (simp only; omega) | (simp; omega)) (by repeat (first | exact trivial | refine ⟨rfl, ?_⟩)) (Ent.sep (.pure (by first | omega | (simp; done) | (simp; omega) | (dsimp only; omega)) enn))
    ·
      try simp only [decide_eq_true_eq, decide_eq_false_iff_not, Bool.and_eq_true, Bool.or_eq_true, Bool.and_eq_false_iff, Bool.or_eq_false_iff, Bool.not_eq_true', Bool.not_eq_false', Bool.not_eq_true, Bool.not_eq_false, Int.not_lt, Int.not_le, Decidable.not_not, ne_eq] at hc1
      rw [if_neg (by rw [hc1]; simp)] at hst
      rw [show cn (l.take i) = cn (l.take (i + 1)) from hst.symm]
      refine Hd.skip ?_
      refine Hd.inB ?_
      refine Hd.toK hK7 ?_
      refine Hd.region ?_
      refine Hd.yv (y_move rfl) ?_
      first | (refine Hd.yv (y_addn rfl rfl (by simp only [InK]; omega)) ?_) | (refine Hd.yv (y_add rfl rfl) ?_)
      refine Hd.yv (y_assign rfl) ?_
      refine Hd.nil ?_
      refine Hd.slots [(0, _), (3, _), (4, _)] ⟨rfl, rfl, rfl, trivial⟩ ?_
      clear hK1 hK2 hK3 hK4 hK5 hK6 hK7 hK8
      refine Hd.thenN ?_
      exact Hd.again (i + 1) (by first | omega | (simp only; omega) | (simp; omega)) (by repeat (first | exact trivial | refine ⟨rfl, ?_⟩)) (Ent.sep (.pure (by first | omega | (simp; done) | (simp; omega) | (dsimp only; omega)) enn))
  ·
    try simp only [decide_eq_true_eq, decide_eq_false_iff_not, Bool.and_eq_true, Bool.or_eq_true, Bool.and_eq_false_iff, Bool.or_eq_false_iff, Bool.not_eq_true', Bool.not_eq_false', Bool.not_eq_true, Bool.not_eq_false, Int.not_lt, Int.not_le, Decidable.not_not, ne_eq] at hc0
    have hall : l.take i = l := List.take_of_length_le (by omega)
    rw [hall]
    refine Hd.exit ?_
    refine Hd.thenExit ?_
    refine Hd.thenExit ?_
    refine Hd.inBexit ?_
    refine Hd.toK hK3 ?_
    refine Hd.seq (fun K9 hK9 => ?_)
    refine Hd.region ?_
    refine Hd.yv (y_move rfl) ?_
    refine Hd.yv (y_assign rfl) ?_
    refine Hd.nil ?_
    refine Hd.slots [(2, _)] ⟨rfl, trivial⟩ ?_
    refine Hd.toK hK9 ?_
    refine Hd.ret ?_
    clear hK1 hK2 hK3 hK4 hK5 hK6 hK9
    exact Hd.ret1 rfl () (by first | rfl | (simp only [*]; done) | (simp [*]; done)) (Ent.sep enn)
theorem due_of {now : Int} {x : On} (h : ¬ (x.pn = false ∨ now < x.at_) ∧ x.at_ ≠ NV) : dueO now x = true := by
  unfold dueO
  obtain ⟨h1, h2⟩ := h
  simp only [not_or] at h1
  have h3 : x.pn = true := by simpa using h1.1
  rw [h3, decide_eq_true (show x.at_ ≤ now by omega), decide_eq_true h2]; rfl
set_option maxHeartbeats 2000000 in
theorem rtfirst_ct (L : List SP) (b : Nat) (nx lim : Int) (l : List On) (r : Option Addr × Nat) (hl : l.length ≤ 1000000) (now : Int) : Ct Try.prog 47 #[.pointer (some ⟨b, 0, none⟩), .int .u64 now] (TrL b l nx lim r L) (fun a : Int => .int .i64 a) (fun a : Int => pu (FSd now l a) :: TrL b l nx lim r L) := by
  refine Ct.of (vs := [.pointer (some ⟨b, 0, none⟩), .int .u64 now]) Try.func47 rfl rfl [(0, .pointer (some ⟨b, 0, none⟩)), (1, .int .u64 now)] (by repeat (first | exact trivial | refine ⟨rfl, ?_⟩)) ?_
  intro E
  show Hd E 81 _ _ _ _
  refine Hd.seq (fun K1 hK1 => ?_)
  refine Hd.region ?_
  refine Hd.yv (y_assign rfl) ?_
  refine Hd.nil ?_
  refine Hd.slots [(0, _), (1, _)] ⟨rfl, rfl, trivial⟩ ?_
  refine Hd.toK hK1 ?_
  refine Hd.seq (fun K2 hK2 => ?_)
  refine Hd.region ?_
  refine Hd.yv (y_assign rfl) ?_
  refine Hd.nil ?_
  refine Hd.slots [(0, _), (1, _), (5, _)] ⟨rfl, rfl, rfl, trivial⟩ ?_
  refine Hd.toK hK2 ?_
  refine Hd.seq (fun K3 hK3 => ?_)
  refine Hd.seq (fun K4 hK4 => ?_)
  refine Hd.region ?_
  refine Hd.yv (y_assign rfl) ?_
  refine Hd.nil ?_
  refine Hd.slots [(0, _), (1, _), (5, _), (6, _)] ⟨rfl, rfl, rfl, rfl, trivial⟩ ?_
  refine Hd.toK hK4 ?_
  refine Hd.block ?_
  refine Hd.loopK (ι := Nat × Int) [(0, _), (1, _)] (fun q_ => [(5, .int .i64 q_.2), (6, .int .i64 (q_.1 : Int))]) (fun q_ => pu (q_.1 ≤ l.length ∧ FSd now (l.take q_.1) q_.2) :: TrL b l nx lim r L) (fun q_ => l.length - q_.1) (0, -1) (by repeat (first | exact trivial | refine ⟨rfl, ?_⟩)) (by repeat (first | exact trivial | refine ⟨rfl, ?_⟩)) (Ent.sep (.pure ⟨Nat.zero_le _, .inl ⟨rfl, by simp⟩⟩ enn)) ?_
  rintro ⟨i, a⟩
  try dsimp only
  refine Hd.pure (fun hp0 => ?_)
  try dsimp only at hp0
  refine Hd.seq (fun K5 hK5 => ?_)
  refine Hd.seq (fun K6 hK6 => ?_)
  refine Hd.region ?_
  refine Hd.yv (y_move rfl) ?_
  refine Hd.yv (y_move rfl) ?_
  refine Hd.yv (y_nilp rfl) ?_
  first | (refine Hd.yv (y_field' (q := 0) (ft := 56) Try.underlying58 rfl sz56 rfl rfl) ?_) | (refine Hd.yv (y_fieldR (q := 0) (ft := 56) Try.underlying58 rfl sz56 rfl rfl) ?_)
  first | (refine Hd.yv (y_load1 ag56 rfl (Rd.pt1 pkk (by (first | rfl)))) ?_) | (refine Hd.yv (y_load1 ag56 rfl (Rd.seg1 pkk (by (first | rfl)))) ?_) | (refine Hd.yv (y_loadR1 ag56 rfl (by (first | exact RdS.own pkk)) (by (first | rfl))) ?_)
  refine Hd.yv (y_len Try.underlying56 rfl) ?_
  refine Hd.yv (y_lss rfl rfl) ?_
  refine Hd.nil ?_
  refine Hd.slots [(0, _), (1, _), (5, _), (6, _), (14, _)] ⟨rfl, rfl, rfl, rfl, rfl, trivial⟩ ?_
  refine Hd.toK hK6 ?_
  refine Hd.cond rfl (fun hc0 => ?_) (fun hc0 => ?_)
  ·
    try simp only [decide_eq_true_eq, decide_eq_false_iff_not, Bool.and_eq_true, Bool.or_eq_true, Bool.and_eq_false_iff, Bool.or_eq_false_iff, Bool.not_eq_true', Bool.not_eq_false', Bool.not_eq_true, Bool.not_eq_false, Int.not_lt, Int.not_le, Decidable.not_not, ne_eq] at hc0
    have hi : i < l.length := by omega
    have hgi : l[i]? = some (gO l i) := gO_at hi
    obtain ⟨_, hfs⟩ := hp0
    refine Hd.skip ?_
    refine Hd.toK hK5 ?_
    refine Hd.seq (fun K7 hK7 => ?_)
    refine Hd.block ?_
    refine Hd.seq (fun K8 hK8 => ?_)
    refine Hd.region ?_
    refine Hd.yv (y_move rfl) ?_
    refine Hd.yv (y_nilp rfl) ?_
    first | (refine Hd.yv (y_field' (q := 0) (ft := 56) Try.underlying58 rfl sz56 rfl rfl) ?_) | (refine Hd.yv (y_fieldR (q := 0) (ft := 56) Try.underlying58 rfl sz56 rfl rfl) ?_)
    first | (refine Hd.yv (y_load1 ag56 rfl (Rd.pt1 pkk (by (first | rfl)))) ?_) | (refine Hd.yv (y_load1 ag56 rfl (Rd.seg1 pkk (by (first | rfl)))) ?_) | (refine Hd.yv (y_loadR1 ag56 rfl (by (first | exact RdS.own pkk)) (by (first | rfl))) ?_)
    refine Hd.yv (y_move rfl) ?_
    first | (refine Hd.yv (y_idxS Try.underlying56 sz61 rfl rfl (by first | omega | decide)) ?_) | (refine Hd.yv (y_idxR Try.underlying56 sz61 rfl rfl (by first | omega | decide) (by (first | exact RdS.own pkk))) ?_)
    refine Hd.yv (y_loadRn (vs := [_, _, _, _, _]) ag61 rfl (RdS.own (ad := r.1) (us := l.flatMap encT) pkk) (flat_cells encT 5 (fun _ => rfl) hgi) (by exact sz61) (by simp)) ?_
    refine Hd.alloc zr61 (fun b7 => ?_)
    refine Hd.storeA (us := encT (gO l i)) sz61 rfl rfl rfl (encT_one _) pkk (by exact rfl) ?_
    refine Hd.nil ?_
    refine Hd.slots [(0, _), (1, _), (5, _), (6, _), (7, _)] ⟨rfl, rfl, rfl, rfl, rfl, trivial⟩ ?_
    refine Hd.toK hK8 ?_
    refine Hd.seq (fun K9 hK9 => ?_)
    refine Hd.seq (fun K10 hK10 => ?_)
    refine Hd.region ?_
    first | (refine Hd.yv (y_field' (q := 2) (ft := 4) Try.underlying61 rfl sz4 rfl rfl) ?_) | (refine Hd.yv (y_fieldR (q := 2) (ft := 4) Try.underlying61 rfl sz4 rfl rfl) ?_)
    first | (refine Hd.yv (y_load1 ag4 rfl (Rd.pt1 pkk (by (first | rfl)))) ?_) | (refine Hd.yv (y_load1 ag4 rfl (Rd.seg1 pkk (by (first | rfl)))) ?_) | (refine Hd.yv (y_loadR1 ag4 rfl (by (first | exact RdS.own pkk)) (by (first | rfl))) ?_)
    refine Hd.yv (y_not rfl) ?_
    refine Hd.yv (y_move rfl) ?_
    apply Hd.org 5 27 32 [(0, _), (1, _), (5, _), (6, _), (7, _)] rfl ⟨rfl, rfl, rfl, rfl, rfl, trivial⟩
    · intro hg6_27
      try simp only [decide_eq_true_eq, decide_eq_false_iff_not, Bool.and_eq_true, Bool.or_eq_true, Bool.and_eq_false_iff, Bool.or_eq_false_iff, Bool.not_eq_true', Bool.not_eq_false', Bool.not_eq_true, Bool.not_eq_false, Int.not_lt, Int.not_le, Decidable.not_not, ne_eq] at hg6_27
      simp only [List.take]
      refine Hd.ng rfl rfl rfl ?_
      refine Hd.ng rfl rfl rfl ?_
      refine Hd.ng rfl rfl rfl ?_
      refine Hd.ng rfl rfl rfl ?_
      first | (refine Hd.yv (y_pickT rfl rfl) ?_) | (refine Hd.yv (y_pickF rfl rfl) ?_) | (refine Hd.yv (y_pickb rfl rfl rfl) ?_) | (refine Hd.yv (y_pick rfl rfl rfl) ?_)
      refine Hd.nil ?_
      exact Hd.mend (by repeat (first | exact trivial | refine ⟨rfl, ?_⟩)) (Ent.sep enn)
    · intro hg6_27
      try simp only [decide_eq_true_eq, decide_eq_false_iff_not, Bool.and_eq_true, Bool.or_eq_true, Bool.and_eq_false_iff, Bool.or_eq_false_iff, Bool.not_eq_true', Bool.not_eq_false', Bool.not_eq_true, Bool.not_eq_false, Int.not_lt, Int.not_le, Decidable.not_not, ne_eq] at hg6_27
      simp only [List.take]
      first | (refine Hd.yg rfl rfl (y_field' (q := 3) (ft := 23) Try.underlying61 rfl sz23 rfl rfl) ?_) | (refine Hd.yg rfl rfl (y_fieldR (q := 3) (ft := 23) Try.underlying61 rfl sz23 rfl rfl) ?_)
      first | (refine Hd.yg rfl rfl (y_load1 ag23 rfl (Rd.pt1 pkk (by (first | rfl)))) ?_) | (refine Hd.yg rfl rfl (y_load1 ag23 rfl (Rd.seg1 pkk (by (first | rfl)))) ?_) | (refine Hd.yg rfl rfl (y_loadR1 ag23 rfl (by (first | exact RdS.own pkk)) (by (first | rfl))) ?_)
      refine Hd.yg rfl rfl (y_move rfl) ?_
      refine Hd.yg rfl rfl (y_gtr rfl rfl) ?_
      first | (refine Hd.yv (y_pickT rfl rfl) ?_) | (refine Hd.yv (y_pickF rfl rfl) ?_) | (refine Hd.yv (y_pickb rfl rfl rfl) ?_) | (refine Hd.yv (y_pick rfl rfl rfl) ?_)
      refine Hd.nil ?_
      exact Hd.mend (by repeat (first | exact trivial | refine ⟨rfl, ?_⟩)) (Ent.sep enn)
    simp only [List.drop]
    refine Hd.yv (y_move rfl) ?_
    apply Hd.org 4 33 37 [(0, _), (1, _), (5, _), (6, _), (7, _)] rfl ⟨rfl, rfl, rfl, rfl, rfl, trivial⟩
    · intro hg6_33
      try simp only [decide_eq_true_eq, decide_eq_false_iff_not, Bool.and_eq_true, Bool.or_eq_true, Bool.and_eq_false_iff, Bool.or_eq_false_iff, Bool.not_eq_true', Bool.not_eq_false', Bool.not_eq_true, Bool.not_eq_false, Int.not_lt, Int.not_le, Decidable.not_not, ne_eq] at hg6_33
      simp only [List.take]
      refine Hd.ng rfl rfl rfl ?_
      refine Hd.ng rfl rfl rfl ?_
      refine Hd.ng rfl rfl rfl ?_
      first | (refine Hd.yv (y_pickT rfl rfl) ?_) | (refine Hd.yv (y_pickF rfl rfl) ?_) | (refine Hd.yv (y_pickb rfl rfl rfl) ?_) | (refine Hd.yv (y_pick rfl rfl rfl) ?_)
      refine Hd.nil ?_
      exact Hd.mend (by repeat (first | exact trivial | refine ⟨rfl, ?_⟩)) (Ent.sep enn)
    · intro hg6_33
      try simp only [decide_eq_true_eq, decide_eq_false_iff_not, Bool.and_eq_true, Bool.or_eq_true, Bool.and_eq_false_iff, Bool.or_eq_false_iff, Bool.not_eq_true', Bool.not_eq_false', Bool.not_eq_true, Bool.not_eq_false, Int.not_lt, Int.not_le, Decidable.not_not, ne_eq] at hg6_33
      simp only [List.take]
      first | (refine Hd.yg rfl rfl (y_field' (q := 3) (ft := 23) Try.underlying61 rfl sz23 rfl rfl) ?_) | (refine Hd.yg rfl rfl (y_fieldR (q := 3) (ft := 23) Try.underlying61 rfl sz23 rfl rfl) ?_)
      first | (refine Hd.yg rfl rfl (y_load1 ag23 rfl (Rd.pt1 pkk (by (first | rfl)))) ?_) | (refine Hd.yg rfl rfl (y_load1 ag23 rfl (Rd.seg1 pkk (by (first | rfl)))) ?_) | (refine Hd.yg rfl rfl (y_loadR1 ag23 rfl (by (first | exact RdS.own pkk)) (by (first | rfl))) ?_)
      first | (refine Hd.yg rfl rfl (y_eqlT rfl rfl) ?_) | (refine Hd.yg rfl rfl (y_eql rfl rfl) ?_)
      first | (refine Hd.yv (y_pickT rfl rfl) ?_) | (refine Hd.yv (y_pickF rfl rfl) ?_) | (refine Hd.yv (y_pickb rfl rfl rfl) ?_) | (refine Hd.yv (y_pick rfl rfl rfl) ?_)
      refine Hd.nil ?_
      exact Hd.mend (by repeat (first | exact trivial | refine ⟨rfl, ?_⟩)) (Ent.sep enn)
    simp only [List.drop]
    refine Hd.nil ?_
    refine Hd.slots [(0, _), (1, _), (5, _), (6, _), (7, _), (37, _)] ⟨rfl, rfl, rfl, rfl, rfl, rfl, trivial⟩ ?_
    refine Hd.toK hK10 ?_
    refine Hd.cond rfl (fun hc1 => ?_) (fun hc1 => ?_)
    ·
      try simp only [decide_eq_true_eq, decide_eq_false_iff_not, Bool.and_eq_true, Bool.or_eq_true, Bool.and_eq_false_iff, Bool.or_eq_false_iff, Bool.not_eq_true', Bool.not_eq_false', Bool.not_eq_true, Bool.not_eq_false, Int.not_lt, Int.not_le, Decidable.not_not, ne_eq] at hc1
      have hnd : dueO now (gO l i) = false := by
        unfold dueO
        rcases hc1 with (h | h) | h
        · simp [h]
        · rw [decide_eq_false (show ¬ (gO l i).at_ ≤ now by omega)]; simp
        · rw [h]; simp
      refine Hd.exit ?_
      refine Hd.thenExit ?_
      refine Hd.inBexit ?_
      refine Hd.toK hK7 ?_
      refine Hd.region ?_
      refine Hd.yv (y_move rfl) ?_
      first | (refine Hd.yv (y_addn rfl rfl (by simp only [InK]; omega)) ?_) | (refine Hd.yv (y_add rfl rfl) ?_)
      refine Hd.yv (y_assign rfl) ?_
      refine Hd.nil ?_
      refine Hd.slots [(0, _), (1, _), (5, _), (6, _)] ⟨rfl, rfl, rfl, rfl, trivial⟩ ?_
      clear hK1 hK2 hK3 hK4 hK5 hK6 hK7 hK8 hK9 hK10
      refine Hd.thenN ?_
      exact Hd.again (i + 1, a) (by first | omega | (simp only; omega) | (simp; omega)) (by repeat (first | exact trivial | refine ⟨rfl, ?_⟩)) (Ent.sep (.pure ⟨hi, hfs.skip hgi hnd⟩ enn))
    ·
      try simp only [decide_eq_true_eq, decide_eq_false_iff_not, Bool.and_eq_true, Bool.or_eq_true, Bool.and_eq_false_iff, Bool.or_eq_false_iff, Bool.not_eq_true', Bool.not_eq_false', Bool.not_eq_true, Bool.not_eq_false, Int.not_lt, Int.not_le, Decidable.not_not, ne_eq] at hc1
      have hdu : dueO now (gO l i) = true := by
        unfold dueO
        obtain ⟨⟨h1, h2⟩, h3⟩ := hc1
        rw [h1, decide_eq_true (show (gO l i).at_ ≤ now by omega), decide_eq_true h3]; rfl
      obtain ⟨k, y, hky⟩ := hfs.at
      have hky2 : ¬ a < 0 → a = (k : Int) ∧ k < l.length ∧ l[k]? = some y := fun h => by
        obtain ⟨h1, h2, h3⟩ := hky h
        have h4 := lt_of_app h3
        exact ⟨h1, (List.getElem?_eq_some_iff.1 h4).1, h4⟩
      refine Hd.skip ?_
      refine Hd.toK hK9 ?_
      refine Hd.seq (fun K11 hK11 => ?_)
      refine Hd.quiet mixed (by kernel_rfl) ?_
      refine Hq.yv (y_move rfl) ?_
      refine Hq.yv (y_lss rfl rfl) ?_
      refine Hq.yv (y_move rfl) ?_
      apply Hq.org 12 40 52 [(0, _), (1, _), (5, _), (6, _), (7, _)] rfl ⟨rfl, rfl, rfl, rfl, rfl, trivial⟩
      · intro hg7_40
        try simp only [decide_eq_true_eq, decide_eq_false_iff_not, Bool.and_eq_true, Bool.or_eq_true, Bool.and_eq_false_iff, Bool.or_eq_false_iff, Bool.not_eq_true', Bool.not_eq_false', Bool.not_eq_true, Bool.not_eq_false, Int.not_lt, Int.not_le, Decidable.not_not, ne_eq] at hg7_40
        simp only [List.take]
        refine Hq.ng rfl rfl rfl ?_
        refine Hq.ng rfl rfl rfl ?_
        refine Hq.ng rfl rfl rfl ?_
        refine Hq.ng rfl rfl rfl ?_
        refine Hq.ng rfl rfl rfl ?_
        refine Hq.ng rfl rfl rfl ?_
        refine Hq.ng rfl rfl rfl ?_
        refine Hq.ng rfl rfl rfl ?_
        refine Hq.ng rfl rfl rfl ?_
        refine Hq.ng rfl rfl rfl ?_
        refine Hq.ng rfl rfl rfl ?_
        first | (refine Hq.yv (y_pickT rfl rfl) ?_) | (refine Hq.yv (y_pickF rfl rfl) ?_) | (refine Hq.yv (y_pickb rfl rfl rfl) ?_) | (refine Hq.yv (y_pick rfl rfl rfl) ?_)
        exact Hq.mend (by repeat (first | exact trivial | refine ⟨rfl, ?_⟩))
      · intro hg7_40
        try simp only [decide_eq_true_eq, decide_eq_false_iff_not, Bool.and_eq_true, Bool.or_eq_true, Bool.and_eq_false_iff, Bool.or_eq_false_iff, Bool.not_eq_true', Bool.not_eq_false', Bool.not_eq_true, Bool.not_eq_false, Int.not_lt, Int.not_le, Decidable.not_not, ne_eq] at hg7_40
        simp only [List.take]
        first | (refine Hq.yg rfl rfl (y_field' (q := 3) (ft := 23) Try.underlying61 rfl sz23 rfl rfl) ?_) | (refine Hq.yg rfl rfl (y_fieldR (q := 3) (ft := 23) Try.underlying61 rfl sz23 rfl rfl) ?_)
        first | (refine Hq.yg rfl rfl (y_load1 ag23 rfl (Rd.pt1 pkk (by (first | rfl)))) ?_) | (refine Hq.yg rfl rfl (y_load1 ag23 rfl (Rd.seg1 pkk (by (first | rfl)))) ?_) | (refine Hq.yg rfl rfl (y_loadR1 ag23 rfl (by (first | exact RdS.own pkk)) (by (first | rfl))) ?_)
        refine Hq.yg rfl rfl (y_move rfl) ?_
        refine Hq.yg rfl rfl (y_nilp rfl) ?_
        first | (refine Hq.yg rfl rfl (y_field' (q := 0) (ft := 56) Try.underlying58 rfl sz56 rfl rfl) ?_) | (refine Hq.yg rfl rfl (y_fieldR (q := 0) (ft := 56) Try.underlying58 rfl sz56 rfl rfl) ?_)
        first | (refine Hq.yg rfl rfl (y_load1 ag56 rfl (Rd.pt1 pkk (by (first | rfl)))) ?_) | (refine Hq.yg rfl rfl (y_load1 ag56 rfl (Rd.seg1 pkk (by (first | rfl)))) ?_) | (refine Hq.yg rfl rfl (y_loadR1 ag56 rfl (by (first | exact RdS.own pkk)) (by (first | rfl))) ?_)
        refine Hq.yg rfl rfl (y_move rfl) ?_
        have hk1 := hky2 (by omega)
        refine Hq.yg rfl rfl (y_idxR (j := k) Try.underlying56 sz61 rfl (by exact congrArg (fun z => some (Value.int .i64 z)) hk1.1) hk1.2.1 (RdS.own (ad := r.1) (us := l.flatMap encT) pkk)) ?_
        first | (refine Hq.yg rfl rfl (y_field' (q := 3) (ft := 23) Try.underlying61 rfl sz23 rfl rfl) ?_) | (refine Hq.yg rfl rfl (y_fieldR (q := 3) (ft := 23) Try.underlying61 rfl sz23 rfl rfl) ?_)
        refine Hq.yg rfl rfl (y_loadR1 ag23 rfl (RdS.own (ad := r.1) (us := l.flatMap encT) pkk) (flat_cells encT 5 (fun _ => rfl) hk1.2.2 3 _ rfl)) ?_
        refine Hq.yg rfl rfl (y_lss rfl rfl) ?_
        first | (refine Hq.yv (y_pickT rfl rfl) ?_) | (refine Hq.yv (y_pickF rfl rfl) ?_) | (refine Hq.yv (y_pickb rfl rfl rfl) ?_) | (refine Hq.yv (y_pick rfl rfl rfl) ?_)
        exact Hq.mend (by repeat (first | exact trivial | refine ⟨rfl, ?_⟩))
      simp only [List.drop]
      refine Hq.yv (y_move rfl) ?_
      apply Hq.org (q := (decide ((gO l i).at_ = y.at_) && decide ((gO l i).n < y.n))) 25 53 78 [(0, _), (1, _), (5, _), (6, _)] rfl ⟨rfl, rfl, rfl, rfl, trivial⟩
      · intro hg7_53
        try simp only [decide_eq_true_eq, decide_eq_false_iff_not, Bool.and_eq_true, Bool.or_eq_true, Bool.and_eq_false_iff, Bool.or_eq_false_iff, Bool.not_eq_true', Bool.not_eq_false', Bool.not_eq_true, Bool.not_eq_false, Int.not_lt, Int.not_le, Decidable.not_not, ne_eq] at hg7_53
        simp only [List.take]
        refine Hq.ng rfl rfl rfl ?_
        refine Hq.ng rfl rfl rfl ?_
        refine Hq.ng rfl rfl rfl ?_
        refine Hq.ng rfl rfl rfl ?_
        refine Hq.ng rfl rfl rfl ?_
        refine Hq.ng rfl rfl rfl ?_
        refine Hq.ng rfl rfl rfl ?_
        refine Hq.ng rfl rfl rfl ?_
        refine Hq.ng rfl rfl rfl ?_
        refine Hq.ng rfl rfl rfl ?_
        refine Hq.ng rfl rfl rfl ?_
        refine Hq.ng rfl rfl rfl ?_
        refine Hq.ng rfl rfl rfl ?_
        refine Hq.ng rfl rfl rfl ?_
        refine Hq.ng rfl rfl rfl ?_
        refine Hq.ng rfl rfl rfl ?_
        refine Hq.ng rfl rfl rfl ?_
        refine Hq.ng rfl rfl rfl ?_
        refine Hq.ng rfl rfl rfl ?_
        refine Hq.ng rfl rfl rfl ?_
        refine Hq.ng rfl rfl rfl ?_
        refine Hq.ng rfl rfl rfl ?_
        refine Hq.ng rfl rfl rfl ?_
        refine Hq.ng rfl rfl rfl ?_
        first | (refine Hq.yv (y_pickT rfl rfl) ?_) | (refine Hq.yv (y_pickF rfl rfl) ?_) | (refine Hq.yv (y_pickb rfl rfl rfl) ?_) | (refine Hq.yv (y_pick rfl rfl rfl) ?_)
        exact Hq.mend (by repeat (first | exact trivial | refine ⟨rfl, ?_⟩))
      · intro hg7_53
        try simp only [decide_eq_true_eq, decide_eq_false_iff_not, Bool.and_eq_true, Bool.or_eq_true, Bool.and_eq_false_iff, Bool.or_eq_false_iff, Bool.not_eq_true', Bool.not_eq_false', Bool.not_eq_true, Bool.not_eq_false, Int.not_lt, Int.not_le, Decidable.not_not, ne_eq] at hg7_53
        simp only [List.take]
        first | (refine Hq.yg rfl rfl (y_field' (q := 3) (ft := 23) Try.underlying61 rfl sz23 rfl rfl) ?_) | (refine Hq.yg rfl rfl (y_fieldR (q := 3) (ft := 23) Try.underlying61 rfl sz23 rfl rfl) ?_)
        first | (refine Hq.yg rfl rfl (y_load1 ag23 rfl (Rd.pt1 pkk (by (first | rfl)))) ?_) | (refine Hq.yg rfl rfl (y_load1 ag23 rfl (Rd.seg1 pkk (by (first | rfl)))) ?_) | (refine Hq.yg rfl rfl (y_loadR1 ag23 rfl (by (first | exact RdS.own pkk)) (by (first | rfl))) ?_)
        refine Hq.yg rfl rfl (y_move rfl) ?_
        refine Hq.yg rfl rfl (y_nilp rfl) ?_
        first | (refine Hq.yg rfl rfl (y_field' (q := 0) (ft := 56) Try.underlying58 rfl sz56 rfl rfl) ?_) | (refine Hq.yg rfl rfl (y_fieldR (q := 0) (ft := 56) Try.underlying58 rfl sz56 rfl rfl) ?_)
        first | (refine Hq.yg rfl rfl (y_load1 ag56 rfl (Rd.pt1 pkk (by (first | rfl)))) ?_) | (refine Hq.yg rfl rfl (y_load1 ag56 rfl (Rd.seg1 pkk (by (first | rfl)))) ?_) | (refine Hq.yg rfl rfl (y_loadR1 ag56 rfl (by (first | exact RdS.own pkk)) (by (first | rfl))) ?_)
        refine Hq.yg rfl rfl (y_move rfl) ?_
        have hk1 := hky2 (by omega)
        refine Hq.yg rfl rfl (y_idxR (j := k) Try.underlying56 sz61 rfl (by exact congrArg (fun z => some (Value.int .i64 z)) hk1.1) hk1.2.1 (RdS.own (ad := r.1) (us := l.flatMap encT) pkk)) ?_
        first | (refine Hq.yg rfl rfl (y_field' (q := 3) (ft := 23) Try.underlying61 rfl sz23 rfl rfl) ?_) | (refine Hq.yg rfl rfl (y_fieldR (q := 3) (ft := 23) Try.underlying61 rfl sz23 rfl rfl) ?_)
        refine Hq.yg rfl rfl (y_loadR1 ag23 rfl (RdS.own (ad := r.1) (us := l.flatMap encT) pkk) (flat_cells encT 5 (fun _ => rfl) hk1.2.2 3 _ rfl)) ?_
        first | (refine Hq.yg rfl rfl (y_eqlT rfl rfl) ?_) | (refine Hq.yg rfl rfl (y_eql rfl rfl) ?_)
        refine Hq.yg rfl rfl (y_move rfl) ?_
        apply Hq.andg 12 65 77 [(0, _), (1, _), (5, _), (6, _), (53, _)] rfl ⟨rfl, rfl, rfl, rfl, rfl, trivial⟩
        · intro hg7_65
          try simp only [decide_eq_true_eq, decide_eq_false_iff_not, Bool.and_eq_true, Bool.or_eq_true, Bool.and_eq_false_iff, Bool.or_eq_false_iff, Bool.not_eq_true', Bool.not_eq_false', Bool.not_eq_true, Bool.not_eq_false, Int.not_lt, Int.not_le, Decidable.not_not, ne_eq] at hg7_65
          simp only [List.take]
          first | (refine Hq.yg rfl rfl (y_field' (q := 4) (ft := 3) Try.underlying61 rfl sz3 rfl rfl) ?_) | (refine Hq.yg rfl rfl (y_fieldR (q := 4) (ft := 3) Try.underlying61 rfl sz3 rfl rfl) ?_)
          first | (refine Hq.yg rfl rfl (y_load1 ag3 rfl (Rd.pt1 pkk (by (first | rfl)))) ?_) | (refine Hq.yg rfl rfl (y_load1 ag3 rfl (Rd.seg1 pkk (by (first | rfl)))) ?_) | (refine Hq.yg rfl rfl (y_loadR1 ag3 rfl (by (first | exact RdS.own pkk)) (by (first | rfl))) ?_)
          refine Hq.yg rfl rfl (y_move rfl) ?_
          refine Hq.yg rfl rfl (y_nilp rfl) ?_
          first | (refine Hq.yg rfl rfl (y_field' (q := 0) (ft := 56) Try.underlying58 rfl sz56 rfl rfl) ?_) | (refine Hq.yg rfl rfl (y_fieldR (q := 0) (ft := 56) Try.underlying58 rfl sz56 rfl rfl) ?_)
          first | (refine Hq.yg rfl rfl (y_load1 ag56 rfl (Rd.pt1 pkk (by (first | rfl)))) ?_) | (refine Hq.yg rfl rfl (y_load1 ag56 rfl (Rd.seg1 pkk (by (first | rfl)))) ?_) | (refine Hq.yg rfl rfl (y_loadR1 ag56 rfl (by (first | exact RdS.own pkk)) (by (first | rfl))) ?_)
          refine Hq.yg rfl rfl (y_move rfl) ?_
          have hk1 := hky2 (by omega)
          refine Hq.yg rfl rfl (y_idxR (j := k) Try.underlying56 sz61 rfl (by exact congrArg (fun z => some (Value.int .i64 z)) hk1.1) hk1.2.1 (RdS.own (ad := r.1) (us := l.flatMap encT) pkk)) ?_
          first | (refine Hq.yg rfl rfl (y_field' (q := 4) (ft := 3) Try.underlying61 rfl sz3 rfl rfl) ?_) | (refine Hq.yg rfl rfl (y_fieldR (q := 4) (ft := 3) Try.underlying61 rfl sz3 rfl rfl) ?_)
          refine Hq.yg rfl rfl (y_loadR1 ag3 rfl (RdS.own (ad := r.1) (us := l.flatMap encT) pkk) (flat_cells encT 5 (fun _ => rfl) hk1.2.2 4 _ rfl)) ?_
          refine Hq.yg rfl rfl (y_lss rfl rfl) ?_
          first | (refine Hq.yg rfl rfl (y_pickT rfl rfl) ?_) | (refine Hq.yg rfl rfl (y_pickF rfl rfl) ?_) | (refine Hq.yg rfl rfl (y_pickb rfl rfl rfl) ?_) | (refine Hq.yg rfl rfl (y_pick rfl rfl rfl) ?_)
          exact Hq.mend (by repeat (first | exact trivial | refine ⟨rfl, ?_⟩))
        · intro hg7_65
          try simp only [decide_eq_true_eq, decide_eq_false_iff_not, Bool.and_eq_true, Bool.or_eq_true, Bool.and_eq_false_iff, Bool.or_eq_false_iff, Bool.not_eq_true', Bool.not_eq_false', Bool.not_eq_true, Bool.not_eq_false, Int.not_lt, Int.not_le, Decidable.not_not, ne_eq] at hg7_65
          simp only [List.take]
          refine Hq.ng rfl rfl rfl ?_
          refine Hq.ng rfl rfl rfl ?_
          refine Hq.ng rfl rfl rfl ?_
          refine Hq.ng rfl rfl rfl ?_
          refine Hq.ng rfl rfl rfl ?_
          refine Hq.ng rfl rfl rfl ?_
          refine Hq.ng rfl rfl rfl ?_
          refine Hq.ng rfl rfl rfl ?_
          refine Hq.ng rfl rfl rfl ?_
          refine Hq.ng rfl rfl rfl ?_
          refine Hq.ng rfl rfl rfl ?_
          first | (refine Hq.yg rfl rfl (y_pickT rfl rfl) ?_) | (refine Hq.yg rfl rfl (y_pickF rfl rfl) ?_) | (refine Hq.yg rfl rfl (y_pickb rfl rfl rfl) ?_) | (refine Hq.yg rfl rfl (y_pick rfl rfl rfl) ?_)
          exact Hq.mend (by repeat (first | exact trivial | refine ⟨rfl, ?_⟩))
        simp only [List.drop]
        first | (refine Hq.yv (y_pickT rfl rfl) ?_) | (refine Hq.yv (y_pickF rfl rfl) ?_) | (refine Hq.yv (y_pickb rfl rfl rfl) ?_) | (refine Hq.yv (y_pick rfl rfl rfl) ?_)
        exact Hq.mend (by repeat (first | exact trivial | refine ⟨rfl, ?_⟩))
      simp only [List.drop]
      refine Hq.nil ?_
      refine Hd.slots [(0, _), (1, _), (5, _), (6, _), (78, _)] ⟨rfl, rfl, rfl, rfl, rfl, trivial⟩ ?_
      refine Hd.toK hK11 ?_
      refine Hd.cond rfl (fun hc2 => ?_) (fun hc2 => ?_)
      ·
        try simp only [decide_eq_true_eq, decide_eq_false_iff_not, Bool.and_eq_true, Bool.or_eq_true, Bool.and_eq_false_iff, Bool.or_eq_false_iff, Bool.not_eq_true', Bool.not_eq_false', Bool.not_eq_true, Bool.not_eq_false, Int.not_lt, Int.not_le, Decidable.not_not, ne_eq] at hc2
        have hb : a < 0 ∨ ∃ (k : Nat) (y : On), a = (k : Int) ∧ l[k]? = some y ∧ befO (gO l i) y := by
          by_cases h0 : a < 0
          · exact .inl h0
          · obtain ⟨h1, _, h3⟩ := hky2 h0
            refine .inr ⟨k, y, h1, h3, ?_⟩
            unfold befO
            rcases hc2 with (h | h) | h
            · omega
            · exact .inl h
            · exact .inr h
        refine Hd.region ?_
        refine Hd.yv (y_move rfl) ?_
        refine Hd.yv (y_assign rfl) ?_
        refine Hd.nil ?_
        refine Hd.slots [(0, _), (1, _), (5, _), (6, _)] ⟨rfl, rfl, rfl, rfl, trivial⟩ ?_
        refine Hd.inB ?_
        refine Hd.toK hK7 ?_
        refine Hd.region ?_
        refine Hd.yv (y_move rfl) ?_
        first | (refine Hd.yv (y_addn rfl rfl (by simp only [InK]; omega)) ?_) | (refine Hd.yv (y_add rfl rfl) ?_)
        refine Hd.yv (y_assign rfl) ?_
        refine Hd.nil ?_
        refine Hd.slots [(0, _), (1, _), (5, _), (6, _)] ⟨rfl, rfl, rfl, rfl, trivial⟩ ?_
        clear hK1 hK2 hK3 hK4 hK5 hK6 hK7 hK8 hK9 hK10 hK11
        refine Hd.thenN ?_
        exact Hd.again (i + 1, (i : Int)) (by first | omega | (simp only; omega) | (simp; omega)) (by repeat (first | exact trivial | refine ⟨rfl, ?_⟩)) (Ent.sep (.pure ⟨hi, hfs.put hgi hdu hb⟩ enn))
      ·
        try simp only [decide_eq_true_eq, decide_eq_false_iff_not, Bool.and_eq_true, Bool.or_eq_true, Bool.and_eq_false_iff, Bool.or_eq_false_iff, Bool.not_eq_true', Bool.not_eq_false', Bool.not_eq_true, Bool.not_eq_false, Int.not_lt, Int.not_le, Decidable.not_not, ne_eq] at hc2
        have hb : ¬ a < 0 := by omega
        have hk3 : ∀ (k' : Nat) (y' : On), a = (k' : Int) → l[k']? = some y' → ¬ befO (gO l i) y' := fun k' y' e1 e2 => by
          obtain ⟨h1, _, h3⟩ := hky2 hb
          obtain rfl : k' = k := by omega
          rw [h3] at e2
          obtain rfl := Option.some.inj e2
          unfold befO; omega
        refine Hd.skip ?_
        refine Hd.inB ?_
        refine Hd.toK hK7 ?_
        refine Hd.region ?_
        refine Hd.yv (y_move rfl) ?_
        first | (refine Hd.yv (y_addn rfl rfl (by simp only [InK]; omega)) ?_) | (refine Hd.yv (y_add rfl rfl) ?_)
        refine Hd.yv (y_assign rfl) ?_
        refine Hd.nil ?_
        refine Hd.slots [(0, _), (1, _), (5, _), (6, _)] ⟨rfl, rfl, rfl, rfl, trivial⟩ ?_
        clear hK1 hK2 hK3 hK4 hK5 hK6 hK7 hK8 hK9 hK10 hK11
        refine Hd.thenN ?_
        exact Hd.again (i + 1, a) (by first | omega | (simp only; omega) | (simp; omega)) (by repeat (first | exact trivial | refine ⟨rfl, ?_⟩)) (Ent.sep (.pure ⟨hi, hfs.keep hgi hb hk3⟩ enn))
  ·
    try simp only [decide_eq_true_eq, decide_eq_false_iff_not, Bool.and_eq_true, Bool.or_eq_true, Bool.and_eq_false_iff, Bool.or_eq_false_iff, Bool.not_eq_true', Bool.not_eq_false', Bool.not_eq_true, Bool.not_eq_false, Int.not_lt, Int.not_le, Decidable.not_not, ne_eq] at hc0
    have hall : l.take i = l := List.take_of_length_le (by omega)
    have hfs := hp0.2
    rw [hall] at hfs
    refine Hd.exit ?_
    refine Hd.thenExit ?_
    refine Hd.thenExit ?_
    refine Hd.inBexit ?_
    refine Hd.toK hK3 ?_
    refine Hd.seq (fun K12 hK12 => ?_)
    refine Hd.region ?_
    refine Hd.yv (y_move rfl) ?_
    refine Hd.yv (y_assign rfl) ?_
    refine Hd.nil ?_
    refine Hd.slots [(4, _)] ⟨rfl, trivial⟩ ?_
    refine Hd.toK hK12 ?_
    refine Hd.ret ?_
    clear hK1 hK2 hK3 hK4 hK5 hK6 hK12
    exact Hd.ret1 rfl a rfl (Ent.sep (.pure hfs enn))
end Tm
end Go.Proofs.Ytdjoofidicoimaa
