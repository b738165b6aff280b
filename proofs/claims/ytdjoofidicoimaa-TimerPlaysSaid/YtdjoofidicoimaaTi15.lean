/-
  The law TimerPlays answers true.
-/
import Derived.Test.YtdjoofidicoimaaTi14
namespace Go.Proofs.Ytdjoofidicoimaa
set_option linter.unusedSimpArgs false
set_option linter.unusedVariables false
set_option linter.unnecessarySimpa false
open Go.RX Fx Hp Cm
namespace Tm
set_option maxRecDepth 8000
theorem CoF.nin {qs : List Q} {s : List It} {nx : Int} (h : CoF qs s nx) : ∀ x ∈ s, ∀ y ∈ s, x.n = y.n → x = y := by obtain ⟨_, _, h⟩ := h; exact h.nin
theorem CoF.nx0 {qs : List Q} {s : List It} {nx : Int} (h : CoF qs s nx) : 0 ≤ nx := by obtain ⟨_, _, h⟩ := h; exact h.nx0
theorem over_eq (lim now : Int) : (decide (lim ≠ NV) && decide (lim ≤ now)) = (decide (lim ≠ 18446744073709551615) && decide (lim ≤ now)) := rfl
/-- what is left, of the document's list -/
theorem RelT.left {s : List It} {af : AF} {l : List On} (h : RelT s af l) (hnd : (s.map It.id).Nodup) (id now : Int) {k : Nat} {x : On} (hk : ¬ fx id l < 0 → fx id l = (k : Int) ∧ k < l.length ∧ l[k]? = some x) :
    leftV (findI id s) now = if (decide (fx id l ≥ 0) && x.pn) = true then (lf now x.at_, true) else (0, false) := by
  rcases fx_cases (id := id) h.nd with ⟨e, hn⟩ | ⟨pre, y, post, ha, e, h1, h2⟩
  · rw [if_neg (by rw [e]; simp), (h.cutB fun x hx _ => noO hn x hx).2]; rfl
  · obtain ⟨e2, _, h3⟩ := hk (by omega)
    have : k = pre.length := by omega
    subst this
    rw [h2] at h3
    obtain rfl := Option.some.inj h3
    by_cases hp : y.pn = true
    · rw [if_pos (by rw [hp, e]; simp), h.on ha hp hnd]; rfl
    · rw [if_neg (by simp [hp]), (h.cutB (ha.off hp)).2]; rfl
theorem RelT.afv {s : List It} {af : AF} {l : List On} (h : RelT s af l) (id : Int) {k : Nat} {x : On} (hk : ¬ fx id l < 0 → fx id l = (k : Int) ∧ k < l.length ∧ l[k]? = some x) (hi : (af id).isSome = true) : ¬ fx id l < 0 ∧ (af id).getD 0 = x.af := by
  have h0 : ¬ fx id l < 0 := by
    have := h.is id
    rw [hi] at this
    have := decide_eq_true_iff.1 this.symm
    unfold fx; omega
  refine ⟨h0, ?_⟩
  rcases fx_cases (id := id) h.nd with ⟨e, hn⟩ | ⟨pre, y, post, ha, e, h1, h2⟩
  · omega
  · obtain ⟨e2, _, h3⟩ := hk h0
    have : k = pre.length := by omega
    subst this
    rw [h2] at h3
    obtain rfl := Option.some.inj h3
    rw [h.af, ha.f]; rfl
theorem Hd.trA {E : World} {n : Nat} {ds : List Deferred} {st : List (Nat × Value)} {L L' : List SP} {K : Act → World → Prop} {b : Nat} {s : List It} {nx lim : Int} {af : AF} (p : Pick L (TrA b s nx af lim) L') (h : ∀ r l, TrOk s af nx l → Hd E n ds st (TrL b l nx lim r L') K) : Hd E n ds st L K :=
  Hd.exs (f := fun c : (Option Addr × Nat) × List On => pu (TrOk s af nx c.2) :: TrL b c.2 nx lim c.1 []) p fun c => Hd.pure fun hr => h c.1 c.2 hr
theorem lv_eq {v now a : Int} {p : Bool} {want : Int} (h : want = if v ≥ 0 ∧ p = true then (if a = 18446744073709551615 then 18446744073709551615 else if a ≤ now then 0 else a - now) else 0) : (if (decide (v ≥ 0) && p) = true then (lf now a, true) else (0, false)).1 = want := by
  rw [h]
  by_cases h1 : v ≥ 0 ∧ p = true
  · rw [if_pos h1, if_pos (by simpa using h1)]; rfl
  · rw [if_neg h1, if_neg (by simpa using h1)]
set_option maxHeartbeats 2000000 in
theorem plays_ct (L : List SP) (ad : Option Addr) (c : Nat) (xs : List Opt) (hR : RdS L 5 ad xs.length (xs.flatMap encO)) (hO : ∀ o ∈ xs, OpOk o) : Ct Try.prog 8 #[.slice ad xs.length c] (L) (fun _ : Unit => .bool true) (fun _ : Unit => L) := by
  refine Ct.of (vs := [.slice ad xs.length c]) Try.func8 rfl rfl [(0, .slice ad xs.length c)] (by repeat (first | exact trivial | refine ⟨rfl, ?_⟩)) ?_
  intro E
  show Hd E 306 _ _ _ _
  refine Hd.seq (fun K1 hK1 => ?_)
  refine Hd.region ?_
  refine Hd.yv (y_assign rfl) ?_
  refine Hd.nil ?_
  refine Hd.slots [(0, _)] ⟨rfl, trivial⟩ ?_
  refine Hd.toK hK1 ?_
  refine Hd.seq (fun K2 hK2 => ?_)
  refine Hd.seq (fun K3 hK3 => ?_)
  refine Hd.region ?_
  refine Hd.yv (y_move rfl) ?_
  refine Hd.yv (y_len Try.underlying39 rfl) ?_
  refine Hd.yv (y_gtr rfl rfl) ?_
  refine Hd.nil ?_
  refine Hd.slots [(0, _), (23, _)] ⟨rfl, rfl, trivial⟩ ?_
  refine Hd.toK hK3 ?_
  refine Hd.cond rfl (fun hc0 => ?_) (fun hc0 => ?_)
  ·
    try simp only [decide_eq_true_eq, decide_eq_false_iff_not, Bool.and_eq_true, Bool.or_eq_true, Bool.and_eq_false_iff, Bool.or_eq_false_iff, Bool.not_eq_true', Bool.not_eq_false', Bool.not_eq_true, Bool.not_eq_false, Int.not_lt, Int.not_le, Decidable.not_not, ne_eq] at hc0
    refine Hd.seq (fun K4 hK4 => ?_)
    refine Hd.region ?_
    refine Hd.yv (y_assign rfl) ?_
    refine Hd.nil ?_
    refine Hd.slots [(2, _)] ⟨rfl, trivial⟩ ?_
    refine Hd.toK hK4 ?_
    refine Hd.ret ?_
    refine Hd.thenRet ?_
    clear hK1 hK2 hK3 hK4
    exact Hd.ret1 rfl () (by first | rfl | (simp only [*]; done) | (simp [*]; done)) (Ent.sep enn)
  ·
    try simp only [decide_eq_true_eq, decide_eq_false_iff_not, Bool.and_eq_true, Bool.or_eq_true, Bool.and_eq_false_iff, Bool.or_eq_false_iff, Bool.not_eq_true', Bool.not_eq_false', Bool.not_eq_true, Bool.not_eq_false, Int.not_lt, Int.not_le, Decidable.not_not, ne_eq] at hc0
    have hx : xs.length ≤ 100 := by omega
    refine Hd.skip ?_
    refine Hd.toK hK2 ?_
    refine Hd.seq (fun K5 hK5 => ?_)
    refine Hd.region ?_
    refine Hd.callE rfl fk10 (tnew_ct _) (Ent.sep enn) ?_
    intro b
    refine Hd.yv (y_assign rfl) ?_
    refine Hd.nil ?_
    refine Hd.slots [(0, _), (3, _)] ⟨rfl, rfl, trivial⟩ ?_
    refine Hd.toK hK5 ?_
    refine Hd.seq (fun K6 hK6 => ?_)
    refine Hd.region ?_
    refine Hd.callE rfl fk24 (rtnew_ct _) (Ent.sep enn) ?_
    intro b2
    refine Hd.yv (y_assign rfl) ?_
    refine Hd.nil ?_
    refine Hd.slots [(0, _), (3, _), (4, _)] ⟨rfl, rfl, rfl, trivial⟩ ?_
    refine Hd.toK hK6 ?_
    refine Hd.seq (fun K7 hK7 => ?_)
    refine Hd.seq (fun K8 hK8 => ?_)
    refine Hd.region ?_
    refine Hd.yv (y_assign rfl) ?_
    refine Hd.nil ?_
    refine Hd.slots [(0, _), (3, _), (4, _), (5, _)] ⟨rfl, rfl, rfl, rfl, trivial⟩ ?_
    refine Hd.toK hK8 ?_
    refine Hd.block ?_
    refine Hd.loopK (ι := Nat × List Q × List It × Int × AF × Int) [(0, _), (3, _), (4, _)] (fun q_ => [(5, .int .i64 (q_.1 : Int))]) (fun q_ => pu (q_.1 ≤ xs.length ∧ q_.2.2.1.length ≤ q_.1 ∧ q_.2.2.2.1 ≤ q_.1 ∧ AfOk q_.2.2.2.2.1 ∧ InK .u64 q_.2.2.2.2.2) :: TmA b q_.2.1 q_.2.2.1 q_.2.2.2.1 q_.2.2.2.2.1 q_.2.2.2.2.2 :: TrA b2 q_.2.2.1 q_.2.2.2.1 q_.2.2.2.2.1 q_.2.2.2.2.2 :: L) (fun q_ => xs.length - q_.1) (0, [], [], 0, fun _ => none, NV) (by repeat (first | exact trivial | refine ⟨rfl, ?_⟩)) (by repeat (first | exact trivial | refine ⟨rfl, ?_⟩)) (Ent.sep (.pure ⟨Nat.zero_le _, Nat.zero_le _, Int.le_refl _, AfOk.none, by simp [InK]⟩ enn)) ?_
    rintro ⟨i, qs, s, nx, af, lim⟩
    try dsimp only
    refine Hd.pure (fun hp0 => ?_)
    try dsimp only at hp0
    refine Hd.seq (fun K9 hK9 => ?_)
    refine Hd.seq (fun K10 hK10 => ?_)
    refine Hd.region ?_
    refine Hd.yv (y_move rfl) ?_
    refine Hd.yv (y_move rfl) ?_
    refine Hd.yv (y_len Try.underlying39 rfl) ?_
    refine Hd.yv (y_lss rfl rfl) ?_
    refine Hd.nil ?_
    refine Hd.slots [(0, _), (3, _), (4, _), (5, _), (29, _)] ⟨rfl, rfl, rfl, rfl, rfl, trivial⟩ ?_
    refine Hd.toK hK10 ?_
    refine Hd.cond rfl (fun hc1 => ?_) (fun hc1 => ?_)
    ·
      try simp only [decide_eq_true_eq, decide_eq_false_iff_not, Bool.and_eq_true, Bool.or_eq_true, Bool.and_eq_false_iff, Bool.or_eq_false_iff, Bool.not_eq_true', Bool.not_eq_false', Bool.not_eq_true, Bool.not_eq_false, Int.not_lt, Int.not_le, Decidable.not_not, ne_eq] at hc1
      have hi : i < xs.length := by omega
      obtain ⟨_, hsl, hnl, haf, hlim⟩ := hp0
      obtain ⟨x, hxo⟩ : ∃ x, xs[i]? = some x := ⟨_, List.getElem?_eq_getElem hi⟩
      have hok := hO x (List.mem_of_getElem? hxo)
      refine Hd.tmF (b := b) pkk (fun hcf hat => ?_)
      have hF := hcf.hF
      have hnx0 := CoF.nx0 hcf
      refine Hd.skip ?_
      refine Hd.toK hK9 ?_
      refine Hd.seq (fun K11 hK11 => ?_)
      refine Hd.block ?_
      refine Hd.seq (fun K12 hK12 => ?_)
      refine Hd.region ?_
      refine Hd.yv (y_move rfl) ?_
      refine Hd.yv (y_move rfl) ?_
      first | (refine Hd.yv (y_idxS Try.underlying39 sz41 rfl rfl (by first | omega | decide)) ?_) | (refine Hd.yv (y_idxR Try.underlying39 sz41 rfl rfl (by first | omega | decide) (by (first | exact RdS.own pkk | exact RdS.mono hR (Ent.sep enn)))) ?_)
      refine Hd.yv (y_loadRn (vs := [_, _, _, _, _]) ag41 rfl (RdS.mono hR (Ent.sep enn)) (flat_cells encO 5 (fun _ => rfl) hxo) (by exact sz41) (by simp)) ?_
      refine Hd.alloc zr41 (fun b6 => ?_)
      refine Hd.storeA (us := encO x) sz41 rfl rfl rfl (by simp [Value.oneCell']) pkk (by exact rfl) ?_
      refine Hd.nil ?_
      refine Hd.slots [(0, _), (3, _), (4, _), (5, _), (6, _)] ⟨rfl, rfl, rfl, rfl, rfl, trivial⟩ ?_
      refine Hd.toK hK12 ?_
      refine Hd.seq (fun K13 hK13 => ?_)
      refine Hd.region ?_
      refine Hd.yv (y_assign rfl) ?_
      refine Hd.nil ?_
      refine Hd.slots [(0, _), (3, _), (4, _), (5, _), (6, _), (7, _)] ⟨rfl, rfl, rfl, rfl, rfl, rfl, trivial⟩ ?_
      refine Hd.toK hK13 ?_
      refine Hd.cutK (ι := List Q × List It × Int × AF × Int) [(0, _), (3, _), (4, _), (5, _), (6, _)] (fun _ => [(7, .bool true)]) (fun j => pu (j.2.1.length ≤ i + 1 ∧ j.2.2.1 ≤ i + 1 ∧ AfOk j.2.2.2.1 ∧ InK .u64 j.2.2.2.2) :: pt b6 (encO x) 41 :: TmA b j.1 j.2.1 j.2.2.1 j.2.2.2.1 j.2.2.2.2 :: TrA b2 j.2.1 j.2.2.1 j.2.2.2.1 j.2.2.2.2 :: L) ?_ ?_ ⟨rfl, rfl, rfl, rfl, rfl, trivial⟩
      ·
        refine Hd.seq (fun K14 hK14 => ?_)
        refine Hd.region ?_
        first | (refine Hd.yv (y_field' (q := 0) (ft := 3) Try.underlying41 rfl sz3 rfl rfl) ?_) | (refine Hd.yv (y_fieldR (q := 0) (ft := 3) Try.underlying41 rfl sz3 rfl rfl) ?_)
        first | (refine Hd.yv (y_load1 ag3 rfl (Rd.pt1 pkk (by (first | rfl)))) ?_) | (refine Hd.yv (y_load1 ag3 rfl (Rd.seg1 pkk (by (first | rfl)))) ?_) | (refine Hd.yv (y_loadR1 ag3 rfl (by (first | exact RdS.own pkk | exact RdS.mono hR (Ent.sep enn))) (by (first | rfl))) ?_)
        refine Hd.nil ?_
        refine Hd.slots [(0, _), (3, _), (4, _), (5, _), (6, _), (7, _), (37, _)] ⟨rfl, rfl, rfl, rfl, rfl, rfl, rfl, trivial⟩ ?_
        refine Hd.toK hK14 ?_
        refine Hd.block ?_
        refine Hd.seq (fun K15 hK15 => ?_)
        refine Hd.region ?_
        first | (refine Hd.yv (y_eqlT rfl rfl) ?_) | (refine Hd.yv (y_eql rfl rfl) ?_)
        refine Hd.yv (y_assign rfl) ?_
        refine Hd.nil ?_
        refine Hd.slots [(0, _), (3, _), (4, _), (5, _), (6, _), (7, _), (37, _), (38, _)] ⟨rfl, rfl, rfl, rfl, rfl, rfl, rfl, rfl, trivial⟩ ?_
        refine Hd.toK hK15 ?_
        refine Hd.cond rfl (fun hc2 => ?_) (fun hc2 => ?_)
        ·
          try simp only [decide_eq_true_eq, decide_eq_false_iff_not, Bool.and_eq_true, Bool.or_eq_true, Bool.and_eq_false_iff, Bool.or_eq_false_iff, Bool.not_eq_true', Bool.not_eq_false', Bool.not_eq_true, Bool.not_eq_false, Int.not_lt, Int.not_le, Decidable.not_not, ne_eq] at hc2
          refine Hd.drawsH ([pt b6 (encO x) 41]) (fun _ => true) mixed ?_
          simp only [List.length, Nat.zero_add, Nat.reduceAdd]
          refine Hd.takeH 0 rfl (by kernel_rfl) (by kernel_rfl) (by kernel_rfl) (by kernel_rfl) (y_move rfl) (fun _ _ => rfl) (Ent.sep enn) ?_
          first | (refine Hd.takeH 1 rfl (by kernel_rfl) (by kernel_rfl) (by kernel_rfl) (by kernel_rfl) (y_field' (q := 1) (ft := 3) Try.underlying41 rfl sz3 rfl rfl) (fun _ _ => rfl) (Ent.sep enn) ?_) | (refine Hd.takeH 1 rfl (by kernel_rfl) (by kernel_rfl) (by kernel_rfl) (by kernel_rfl) (y_fieldR (q := 1) (ft := 3) Try.underlying41 rfl sz3 rfl rfl) (fun _ _ => rfl) (Ent.sep enn) ?_)
          first | (refine Hd.takeH 2 rfl (by kernel_rfl) (by kernel_rfl) (by kernel_rfl) (by kernel_rfl) (y_load1 ag3 rfl (Rd.pt1 pkk (by (first | rfl)))) (fun _ _ => rfl) (Ent.sep enn) ?_) | (refine Hd.takeH 2 rfl (by kernel_rfl) (by kernel_rfl) (by kernel_rfl) (by kernel_rfl) (y_load1 ag3 rfl (Rd.seg1 pkk (by (first | rfl)))) (fun _ _ => rfl) (Ent.sep enn) ?_) | (refine Hd.takeH 2 rfl (by kernel_rfl) (by kernel_rfl) (by kernel_rfl) (by kernel_rfl) (y_loadR1 ag3 rfl (by (first | exact RdS.own pkk | exact RdS.mono hR (Ent.sep enn))) (by (first | rfl))) (fun _ _ => rfl) (Ent.sep enn) ?_)
          first | (refine Hd.takeH 3 rfl (by kernel_rfl) (by kernel_rfl) (by kernel_rfl) (by kernel_rfl) (y_field' (q := 2) (ft := 23) Try.underlying41 rfl sz23 rfl rfl) (fun _ _ => rfl) (Ent.sep enn) ?_) | (refine Hd.takeH 3 rfl (by kernel_rfl) (by kernel_rfl) (by kernel_rfl) (by kernel_rfl) (y_fieldR (q := 2) (ft := 23) Try.underlying41 rfl sz23 rfl rfl) (fun _ _ => rfl) (Ent.sep enn) ?_)
          first | (refine Hd.takeH 4 rfl (by kernel_rfl) (by kernel_rfl) (by kernel_rfl) (by kernel_rfl) (y_load1 ag23 rfl (Rd.pt1 pkk (by (first | rfl)))) (fun _ _ => rfl) (Ent.sep enn) ?_) | (refine Hd.takeH 4 rfl (by kernel_rfl) (by kernel_rfl) (by kernel_rfl) (by kernel_rfl) (y_load1 ag23 rfl (Rd.seg1 pkk (by (first | rfl)))) (fun _ _ => rfl) (Ent.sep enn) ?_) | (refine Hd.takeH 4 rfl (by kernel_rfl) (by kernel_rfl) (by kernel_rfl) (by kernel_rfl) (y_loadR1 ag23 rfl (by (first | exact RdS.own pkk | exact RdS.mono hR (Ent.sep enn))) (by (first | rfl))) (fun _ _ => rfl) (Ent.sep enn) ?_)
          first | (refine Hd.takeH 5 rfl (by kernel_rfl) (by kernel_rfl) (by kernel_rfl) (by kernel_rfl) (y_field' (q := 3) (ft := 23) Try.underlying41 rfl sz23 rfl rfl) (fun _ _ => rfl) (Ent.sep enn) ?_) | (refine Hd.takeH 5 rfl (by kernel_rfl) (by kernel_rfl) (by kernel_rfl) (by kernel_rfl) (y_fieldR (q := 3) (ft := 23) Try.underlying41 rfl sz23 rfl rfl) (fun _ _ => rfl) (Ent.sep enn) ?_)
          first | (refine Hd.takeH 6 rfl (by kernel_rfl) (by kernel_rfl) (by kernel_rfl) (by kernel_rfl) (y_load1 ag23 rfl (Rd.pt1 pkk (by (first | rfl)))) (fun _ _ => rfl) (Ent.sep enn) ?_) | (refine Hd.takeH 6 rfl (by kernel_rfl) (by kernel_rfl) (by kernel_rfl) (by kernel_rfl) (y_load1 ag23 rfl (Rd.seg1 pkk (by (first | rfl)))) (fun _ _ => rfl) (Ent.sep enn) ?_) | (refine Hd.takeH 6 rfl (by kernel_rfl) (by kernel_rfl) (by kernel_rfl) (by kernel_rfl) (y_loadR1 ag23 rfl (by (first | exact RdS.own pkk | exact RdS.mono hR (Ent.sep enn))) (by (first | rfl))) (fun _ _ => rfl) (Ent.sep enn) ?_)
          refine Hd.takeH 8 rfl (by kernel_rfl) (by kernel_rfl) (by kernel_rfl) (by kernel_rfl) (y_move rfl) (fun _ _ => rfl) (Ent.sep enn) ?_
          first | (refine Hd.takeH 9 rfl (by kernel_rfl) (by kernel_rfl) (by kernel_rfl) (by kernel_rfl) (y_field' (q := 1) (ft := 3) Try.underlying41 rfl sz3 rfl rfl) (fun _ _ => rfl) (Ent.sep enn) ?_) | (refine Hd.takeH 9 rfl (by kernel_rfl) (by kernel_rfl) (by kernel_rfl) (by kernel_rfl) (y_fieldR (q := 1) (ft := 3) Try.underlying41 rfl sz3 rfl rfl) (fun _ _ => rfl) (Ent.sep enn) ?_)
          first | (refine Hd.takeH 10 rfl (by kernel_rfl) (by kernel_rfl) (by kernel_rfl) (by kernel_rfl) (y_load1 ag3 rfl (Rd.pt1 pkk (by (first | rfl)))) (fun _ _ => rfl) (Ent.sep enn) ?_) | (refine Hd.takeH 10 rfl (by kernel_rfl) (by kernel_rfl) (by kernel_rfl) (by kernel_rfl) (y_load1 ag3 rfl (Rd.seg1 pkk (by (first | rfl)))) (fun _ _ => rfl) (Ent.sep enn) ?_) | (refine Hd.takeH 10 rfl (by kernel_rfl) (by kernel_rfl) (by kernel_rfl) (by kernel_rfl) (y_loadR1 ag3 rfl (by (first | exact RdS.own pkk | exact RdS.mono hR (Ent.sep enn))) (by (first | rfl))) (fun _ _ => rfl) (Ent.sep enn) ?_)
          first | (refine Hd.takeH 11 rfl (by kernel_rfl) (by kernel_rfl) (by kernel_rfl) (by kernel_rfl) (y_field' (q := 2) (ft := 23) Try.underlying41 rfl sz23 rfl rfl) (fun _ _ => rfl) (Ent.sep enn) ?_) | (refine Hd.takeH 11 rfl (by kernel_rfl) (by kernel_rfl) (by kernel_rfl) (by kernel_rfl) (y_fieldR (q := 2) (ft := 23) Try.underlying41 rfl sz23 rfl rfl) (fun _ _ => rfl) (Ent.sep enn) ?_)
          first | (refine Hd.takeH 12 rfl (by kernel_rfl) (by kernel_rfl) (by kernel_rfl) (by kernel_rfl) (y_load1 ag23 rfl (Rd.pt1 pkk (by (first | rfl)))) (fun _ _ => rfl) (Ent.sep enn) ?_) | (refine Hd.takeH 12 rfl (by kernel_rfl) (by kernel_rfl) (by kernel_rfl) (by kernel_rfl) (y_load1 ag23 rfl (Rd.seg1 pkk (by (first | rfl)))) (fun _ _ => rfl) (Ent.sep enn) ?_) | (refine Hd.takeH 12 rfl (by kernel_rfl) (by kernel_rfl) (by kernel_rfl) (by kernel_rfl) (y_loadR1 ag23 rfl (by (first | exact RdS.own pkk | exact RdS.mono hR (Ent.sep enn))) (by (first | rfl))) (fun _ _ => rfl) (Ent.sep enn) ?_)
          first | (refine Hd.takeH 13 rfl (by kernel_rfl) (by kernel_rfl) (by kernel_rfl) (by kernel_rfl) (y_field' (q := 3) (ft := 23) Try.underlying41 rfl sz23 rfl rfl) (fun _ _ => rfl) (Ent.sep enn) ?_) | (refine Hd.takeH 13 rfl (by kernel_rfl) (by kernel_rfl) (by kernel_rfl) (by kernel_rfl) (y_fieldR (q := 3) (ft := 23) Try.underlying41 rfl sz23 rfl rfl) (fun _ _ => rfl) (Ent.sep enn) ?_)
          first | (refine Hd.takeH 14 rfl (by kernel_rfl) (by kernel_rfl) (by kernel_rfl) (by kernel_rfl) (y_load1 ag23 rfl (Rd.pt1 pkk (by (first | rfl)))) (fun _ _ => rfl) (Ent.sep enn) ?_) | (refine Hd.takeH 14 rfl (by kernel_rfl) (by kernel_rfl) (by kernel_rfl) (by kernel_rfl) (y_load1 ag23 rfl (Rd.seg1 pkk (by (first | rfl)))) (fun _ _ => rfl) (Ent.sep enn) ?_) | (refine Hd.takeH 14 rfl (by kernel_rfl) (by kernel_rfl) (by kernel_rfl) (by kernel_rfl) (y_loadR1 ag23 rfl (by (first | exact RdS.own pkk | exact RdS.mono hR (Ent.sep enn))) (by (first | rfl))) (fun _ _ => rfl) (Ent.sep enn) ?_)
          refine Hd.onlyH 7 rfl (by kernel_rfl) ?_
          refine Hd.callE rfl fk13 (tadd_ct _ b qs s nx af lim (by omega) (by omega) x.id x.now x.af hok.1 hok.2) (Ent.sep enn) ?_
          intro _
          refine Hd.nil ?_
          refine Hd.thenN ?_
          refine Hd.heldK (J := (fun _ => true)) (i := 7) (Ent.sep enn) ?_
          refine Hd.onlyH 15 rfl (by kernel_rfl) ?_
          refine Hd.callE rfl fk25 (rtadd_ct _ b2 s nx af lim (by omega) (by omega) x.id x.now x.af hok.1 hok.2) (Ent.sep enn) ?_
          intro _
          refine Hd.nil ?_
          refine Hd.thenN ?_
          refine Hd.heldK (J := (fun _ => true)) (i := 15) (Ent.sep enn) ?_
          first | (refine Hd.takeH 16 rfl (by kernel_rfl) (by kernel_rfl) (by kernel_rfl) (by kernel_rfl) (y_to (y_eqlT rfl rfl) (congrArg Value.bool (decide_eq_true (rfl)))) (fun _ _ => rfl) (Ent.sep enn) ?_) | (refine Hd.takeH 16 rfl (by kernel_rfl) (by kernel_rfl) (by kernel_rfl) (by kernel_rfl) (y_to (y_eql rfl rfl) (congrArg Value.bool (decide_eq_true (rfl)))) (fun _ _ => rfl) (Ent.sep enn) ?_)
          refine Hd.takeH 17 rfl (by kernel_rfl) (by kernel_rfl) (by kernel_rfl) (by kernel_rfl) (y_assign rfl) (fun _ _ => rfl) (Ent.sep enn) ?_
          refine Hd.endH (by kernel_rfl) ?_
          refine Hd.slots [(0, _), (3, _), (4, _), (5, _), (6, _), (7, _)] ⟨rfl, rfl, rfl, rfl, rfl, rfl, trivial⟩ ?_
          refine Hd.inB ?_
          clear hK1 hK2 hK3 hK5 hK6 hK7 hK8 hK9 hK10 hK11 hK12 hK13 hK14 hK15
          refine Hd.thenN ?_
          exact Hd.meet (addQ qs x.id x.now x.af nx, addS s x.id x.now x.af nx, addN x.id nx, addF af x.id x.af, lim) (by repeat (first | exact trivial | refine ⟨rfl, ?_⟩)) (Ent.sep (.pure (by have h1 := addS_len s x.id x.now x.af nx; have h2 := addN_le x.id nx; exact ⟨by show (addS s x.id x.now x.af nx).length ≤ _; omega, by show addN x.id nx ≤ _; omega, haf.add hok.2 x.id, hlim⟩) enn))
        ·
          try simp only [decide_eq_true_eq, decide_eq_false_iff_not, Bool.and_eq_true, Bool.or_eq_true, Bool.and_eq_false_iff, Bool.or_eq_false_iff, Bool.not_eq_true', Bool.not_eq_false', Bool.not_eq_true, Bool.not_eq_false, Int.not_lt, Int.not_le, Decidable.not_not, ne_eq] at hc2
          refine Hd.seq (fun K16 hK16 => ?_)
          refine Hd.region ?_
          first | (refine Hd.yv (y_eqlT rfl rfl) ?_) | (refine Hd.yv (y_eql rfl rfl) ?_)
          refine Hd.yv (y_assign rfl) ?_
          refine Hd.nil ?_
          refine Hd.slots [(0, _), (3, _), (4, _), (5, _), (6, _), (7, _), (37, _), (57, _)] ⟨rfl, rfl, rfl, rfl, rfl, rfl, rfl, rfl, trivial⟩ ?_
          refine Hd.toK hK16 ?_
          refine Hd.cond rfl (fun hc3 => ?_) (fun hc3 => ?_)
          ·
            try simp only [decide_eq_true_eq, decide_eq_false_iff_not, Bool.and_eq_true, Bool.or_eq_true, Bool.and_eq_false_iff, Bool.or_eq_false_iff, Bool.not_eq_true', Bool.not_eq_false', Bool.not_eq_true, Bool.not_eq_false, Int.not_lt, Int.not_le, Decidable.not_not, ne_eq] at hc3
            refine Hd.drawsH ([pt b6 (encO x) 41]) (fun _ => true) mixed ?_
            simp only [List.length, Nat.zero_add, Nat.reduceAdd]
            refine Hd.takeH 0 rfl (by kernel_rfl) (by kernel_rfl) (by kernel_rfl) (by kernel_rfl) (y_move rfl) (fun _ _ => rfl) (Ent.sep enn) ?_
            first | (refine Hd.takeH 1 rfl (by kernel_rfl) (by kernel_rfl) (by kernel_rfl) (by kernel_rfl) (y_field' (q := 1) (ft := 3) Try.underlying41 rfl sz3 rfl rfl) (fun _ _ => rfl) (Ent.sep enn) ?_) | (refine Hd.takeH 1 rfl (by kernel_rfl) (by kernel_rfl) (by kernel_rfl) (by kernel_rfl) (y_fieldR (q := 1) (ft := 3) Try.underlying41 rfl sz3 rfl rfl) (fun _ _ => rfl) (Ent.sep enn) ?_)
            first | (refine Hd.takeH 2 rfl (by kernel_rfl) (by kernel_rfl) (by kernel_rfl) (by kernel_rfl) (y_load1 ag3 rfl (Rd.pt1 pkk (by (first | rfl)))) (fun _ _ => rfl) (Ent.sep enn) ?_) | (refine Hd.takeH 2 rfl (by kernel_rfl) (by kernel_rfl) (by kernel_rfl) (by kernel_rfl) (y_load1 ag3 rfl (Rd.seg1 pkk (by (first | rfl)))) (fun _ _ => rfl) (Ent.sep enn) ?_) | (refine Hd.takeH 2 rfl (by kernel_rfl) (by kernel_rfl) (by kernel_rfl) (by kernel_rfl) (y_loadR1 ag3 rfl (by (first | exact RdS.own pkk | exact RdS.mono hR (Ent.sep enn))) (by (first | rfl))) (fun _ _ => rfl) (Ent.sep enn) ?_)
            first | (refine Hd.takeH 3 rfl (by kernel_rfl) (by kernel_rfl) (by kernel_rfl) (by kernel_rfl) (y_field' (q := 2) (ft := 23) Try.underlying41 rfl sz23 rfl rfl) (fun _ _ => rfl) (Ent.sep enn) ?_) | (refine Hd.takeH 3 rfl (by kernel_rfl) (by kernel_rfl) (by kernel_rfl) (by kernel_rfl) (y_fieldR (q := 2) (ft := 23) Try.underlying41 rfl sz23 rfl rfl) (fun _ _ => rfl) (Ent.sep enn) ?_)
            first | (refine Hd.takeH 4 rfl (by kernel_rfl) (by kernel_rfl) (by kernel_rfl) (by kernel_rfl) (y_load1 ag23 rfl (Rd.pt1 pkk (by (first | rfl)))) (fun _ _ => rfl) (Ent.sep enn) ?_) | (refine Hd.takeH 4 rfl (by kernel_rfl) (by kernel_rfl) (by kernel_rfl) (by kernel_rfl) (y_load1 ag23 rfl (Rd.seg1 pkk (by (first | rfl)))) (fun _ _ => rfl) (Ent.sep enn) ?_) | (refine Hd.takeH 4 rfl (by kernel_rfl) (by kernel_rfl) (by kernel_rfl) (by kernel_rfl) (y_loadR1 ag23 rfl (by (first | exact RdS.own pkk | exact RdS.mono hR (Ent.sep enn))) (by (first | rfl))) (fun _ _ => rfl) (Ent.sep enn) ?_)
            refine Hd.takeH 6 rfl (by kernel_rfl) (by kernel_rfl) (by kernel_rfl) (by kernel_rfl) (y_move rfl) (fun _ _ => rfl) (Ent.sep enn) ?_
            first | (refine Hd.takeH 7 rfl (by kernel_rfl) (by kernel_rfl) (by kernel_rfl) (by kernel_rfl) (y_field' (q := 1) (ft := 3) Try.underlying41 rfl sz3 rfl rfl) (fun _ _ => rfl) (Ent.sep enn) ?_) | (refine Hd.takeH 7 rfl (by kernel_rfl) (by kernel_rfl) (by kernel_rfl) (by kernel_rfl) (y_fieldR (q := 1) (ft := 3) Try.underlying41 rfl sz3 rfl rfl) (fun _ _ => rfl) (Ent.sep enn) ?_)
            first | (refine Hd.takeH 8 rfl (by kernel_rfl) (by kernel_rfl) (by kernel_rfl) (by kernel_rfl) (y_load1 ag3 rfl (Rd.pt1 pkk (by (first | rfl)))) (fun _ _ => rfl) (Ent.sep enn) ?_) | (refine Hd.takeH 8 rfl (by kernel_rfl) (by kernel_rfl) (by kernel_rfl) (by kernel_rfl) (y_load1 ag3 rfl (Rd.seg1 pkk (by (first | rfl)))) (fun _ _ => rfl) (Ent.sep enn) ?_) | (refine Hd.takeH 8 rfl (by kernel_rfl) (by kernel_rfl) (by kernel_rfl) (by kernel_rfl) (y_loadR1 ag3 rfl (by (first | exact RdS.own pkk | exact RdS.mono hR (Ent.sep enn))) (by (first | rfl))) (fun _ _ => rfl) (Ent.sep enn) ?_)
            first | (refine Hd.takeH 9 rfl (by kernel_rfl) (by kernel_rfl) (by kernel_rfl) (by kernel_rfl) (y_field' (q := 2) (ft := 23) Try.underlying41 rfl sz23 rfl rfl) (fun _ _ => rfl) (Ent.sep enn) ?_) | (refine Hd.takeH 9 rfl (by kernel_rfl) (by kernel_rfl) (by kernel_rfl) (by kernel_rfl) (y_fieldR (q := 2) (ft := 23) Try.underlying41 rfl sz23 rfl rfl) (fun _ _ => rfl) (Ent.sep enn) ?_)
            first | (refine Hd.takeH 10 rfl (by kernel_rfl) (by kernel_rfl) (by kernel_rfl) (by kernel_rfl) (y_load1 ag23 rfl (Rd.pt1 pkk (by (first | rfl)))) (fun _ _ => rfl) (Ent.sep enn) ?_) | (refine Hd.takeH 10 rfl (by kernel_rfl) (by kernel_rfl) (by kernel_rfl) (by kernel_rfl) (y_load1 ag23 rfl (Rd.seg1 pkk (by (first | rfl)))) (fun _ _ => rfl) (Ent.sep enn) ?_) | (refine Hd.takeH 10 rfl (by kernel_rfl) (by kernel_rfl) (by kernel_rfl) (by kernel_rfl) (y_loadR1 ag23 rfl (by (first | exact RdS.own pkk | exact RdS.mono hR (Ent.sep enn))) (by (first | rfl))) (fun _ _ => rfl) (Ent.sep enn) ?_)
            refine Hd.onlyH 5 rfl (by kernel_rfl) ?_
            refine Hd.callE rfl fk19 (tagain_ct _ b qs s nx af lim (by omega) (by omega) haf x.id x.now hok.1) (Ent.sep enn) ?_
            intro _
            refine Hd.nil ?_
            refine Hd.thenN ?_
            refine Hd.heldK (J := (fun _ => true)) (i := 5) (Ent.sep enn) ?_
            refine Hd.onlyH 11 rfl (by kernel_rfl) ?_
            refine Hd.callE rfl fk26 (rtagain_ct _ b2 s nx af lim (by omega) (by omega) haf x.id x.now hok.1) (Ent.sep enn) ?_
            intro _
            refine Hd.nil ?_
            refine Hd.thenN ?_
            refine Hd.heldK (J := (fun _ => true)) (i := 11) (Ent.sep enn) ?_
            first | (refine Hd.takeH 12 rfl (by kernel_rfl) (by kernel_rfl) (by kernel_rfl) (by kernel_rfl) (y_to (y_eqlT rfl rfl) (congrArg Value.bool (decide_eq_true (rfl)))) (fun _ _ => rfl) (Ent.sep enn) ?_) | (refine Hd.takeH 12 rfl (by kernel_rfl) (by kernel_rfl) (by kernel_rfl) (by kernel_rfl) (y_to (y_eql rfl rfl) (congrArg Value.bool (decide_eq_true (rfl)))) (fun _ _ => rfl) (Ent.sep enn) ?_)
            refine Hd.takeH 13 rfl (by kernel_rfl) (by kernel_rfl) (by kernel_rfl) (by kernel_rfl) (y_assign rfl) (fun _ _ => rfl) (Ent.sep enn) ?_
            refine Hd.endH (by kernel_rfl) ?_
            refine Hd.slots [(0, _), (3, _), (4, _), (5, _), (6, _), (7, _)] ⟨rfl, rfl, rfl, rfl, rfl, rfl, trivial⟩ ?_
            refine Hd.inB ?_
            clear hK1 hK2 hK3 hK5 hK6 hK7 hK8 hK9 hK10 hK11 hK12 hK13 hK14 hK15 hK16
            refine Hd.thenN ?_
            exact Hd.meet (agQ qs af x.id x.now nx, agS s af x.id x.now nx, agN af x.id nx, agF af x.id, lim) (by repeat (first | exact trivial | refine ⟨rfl, ?_⟩)) (Ent.sep (.pure (by have h1 := agS_len s af x.id x.now nx; have h2 := agN_le af x.id nx; exact ⟨by show (agS s af x.id x.now nx).length ≤ _; omega, by show agN af x.id nx ≤ _; omega, haf.ag x.id, hlim⟩) enn))
          ·
            try simp only [decide_eq_true_eq, decide_eq_false_iff_not, Bool.and_eq_true, Bool.or_eq_true, Bool.and_eq_false_iff, Bool.or_eq_false_iff, Bool.not_eq_true', Bool.not_eq_false', Bool.not_eq_true, Bool.not_eq_false, Int.not_lt, Int.not_le, Decidable.not_not, ne_eq] at hc3
            refine Hd.seq (fun K17 hK17 => ?_)
            refine Hd.region ?_
            first | (refine Hd.yv (y_eqlT rfl rfl) ?_) | (refine Hd.yv (y_eql rfl rfl) ?_)
            refine Hd.yv (y_assign rfl) ?_
            refine Hd.nil ?_
            refine Hd.slots [(0, _), (3, _), (4, _), (5, _), (6, _), (7, _), (37, _), (72, _)] ⟨rfl, rfl, rfl, rfl, rfl, rfl, rfl, rfl, trivial⟩ ?_
            refine Hd.toK hK17 ?_
            refine Hd.cond rfl (fun hc4 => ?_) (fun hc4 => ?_)
            ·
              try simp only [decide_eq_true_eq, decide_eq_false_iff_not, Bool.and_eq_true, Bool.or_eq_true, Bool.and_eq_false_iff, Bool.or_eq_false_iff, Bool.not_eq_true', Bool.not_eq_false', Bool.not_eq_true, Bool.not_eq_false, Int.not_lt, Int.not_le, Decidable.not_not, ne_eq] at hc4
              refine Hd.trA (b := b2) pkk (fun r2 l2 hr2 => ?_)
              refine Hd.drawsH ([pt b6 (encO x) 41]) (fun _ => true) mixed ?_
              simp only [List.length, Nat.zero_add, Nat.reduceAdd]
              refine Hd.takeH 0 rfl (by kernel_rfl) (by kernel_rfl) (by kernel_rfl) (by kernel_rfl) (y_move rfl) (fun _ _ => rfl) (Ent.sep enn) ?_
              first | (refine Hd.takeH 1 rfl (by kernel_rfl) (by kernel_rfl) (by kernel_rfl) (by kernel_rfl) (y_field' (q := 1) (ft := 3) Try.underlying41 rfl sz3 rfl rfl) (fun _ _ => rfl) (Ent.sep enn) ?_) | (refine Hd.takeH 1 rfl (by kernel_rfl) (by kernel_rfl) (by kernel_rfl) (by kernel_rfl) (y_fieldR (q := 1) (ft := 3) Try.underlying41 rfl sz3 rfl rfl) (fun _ _ => rfl) (Ent.sep enn) ?_)
              first | (refine Hd.takeH 2 rfl (by kernel_rfl) (by kernel_rfl) (by kernel_rfl) (by kernel_rfl) (y_load1 ag3 rfl (Rd.pt1 pkk (by (first | rfl)))) (fun _ _ => rfl) (Ent.sep enn) ?_) | (refine Hd.takeH 2 rfl (by kernel_rfl) (by kernel_rfl) (by kernel_rfl) (by kernel_rfl) (y_load1 ag3 rfl (Rd.seg1 pkk (by (first | rfl)))) (fun _ _ => rfl) (Ent.sep enn) ?_) | (refine Hd.takeH 2 rfl (by kernel_rfl) (by kernel_rfl) (by kernel_rfl) (by kernel_rfl) (y_loadR1 ag3 rfl (by (first | exact RdS.own pkk | exact RdS.mono hR (Ent.sep enn))) (by (first | rfl))) (fun _ _ => rfl) (Ent.sep enn) ?_)
              refine Hd.takeH 4 rfl (by kernel_rfl) (by kernel_rfl) (by kernel_rfl) (by kernel_rfl) (y_move rfl) (fun _ _ => rfl) (Ent.sep enn) ?_
              first | (refine Hd.takeH 5 rfl (by kernel_rfl) (by kernel_rfl) (by kernel_rfl) (by kernel_rfl) (y_field' (q := 1) (ft := 3) Try.underlying41 rfl sz3 rfl rfl) (fun _ _ => rfl) (Ent.sep enn) ?_) | (refine Hd.takeH 5 rfl (by kernel_rfl) (by kernel_rfl) (by kernel_rfl) (by kernel_rfl) (y_fieldR (q := 1) (ft := 3) Try.underlying41 rfl sz3 rfl rfl) (fun _ _ => rfl) (Ent.sep enn) ?_)
              first | (refine Hd.takeH 6 rfl (by kernel_rfl) (by kernel_rfl) (by kernel_rfl) (by kernel_rfl) (y_load1 ag3 rfl (Rd.pt1 pkk (by (first | rfl)))) (fun _ _ => rfl) (Ent.sep enn) ?_) | (refine Hd.takeH 6 rfl (by kernel_rfl) (by kernel_rfl) (by kernel_rfl) (by kernel_rfl) (y_load1 ag3 rfl (Rd.seg1 pkk (by (first | rfl)))) (fun _ _ => rfl) (Ent.sep enn) ?_) | (refine Hd.takeH 6 rfl (by kernel_rfl) (by kernel_rfl) (by kernel_rfl) (by kernel_rfl) (y_loadR1 ag3 rfl (by (first | exact RdS.own pkk | exact RdS.mono hR (Ent.sep enn))) (by (first | rfl))) (fun _ _ => rfl) (Ent.sep enn) ?_)
              refine Hd.onlyH 3 rfl (by kernel_rfl) ?_
              refine Hd.callE rfl fk20 (tcut_ct _ b qs s nx af lim (by omega) x.id) (Ent.sep enn) ?_
              intro _
              refine Hd.nil ?_
              refine Hd.thenN ?_
              refine Hd.heldK (J := (fun _ => true)) (i := 3) (Ent.sep enn) ?_
              refine Hd.onlyH 7 rfl (by kernel_rfl) ?_
              refine Hd.callE rfl fk27 (rtcut_ct _ b2 s nx af lim l2 r2 hr2 hF.nd x.id) (Ent.sep enn) ?_
              intro l3
              refine Hd.pure (fun hq3 => ?_)
              refine Hd.nil ?_
              refine Hd.thenN ?_
              refine Hd.heldK (J := (fun _ => true)) (i := 7) (Ent.sep enn) ?_
              refine Hd.takeH 8 rfl (by kernel_rfl) (by kernel_rfl) (by kernel_rfl) (by kernel_rfl) (y_to (v' := .bool true) (y_eqlb Try.underlying4 rfl rfl) (by simp)) (fun _ _ => rfl) (Ent.sep enn) ?_
              refine Hd.takeH 9 rfl (by kernel_rfl) (by kernel_rfl) (by kernel_rfl) (by kernel_rfl) (y_assign rfl) (fun _ _ => rfl) (Ent.sep enn) ?_
              refine Hd.endH (by kernel_rfl) ?_
              refine Hd.slots [(0, _), (3, _), (4, _), (5, _), (6, _), (7, _)] ⟨rfl, rfl, rfl, rfl, rfl, rfl, trivial⟩ ?_
              refine Hd.inB ?_
              clear hK1 hK2 hK3 hK5 hK6 hK7 hK8 hK9 hK10 hK11 hK12 hK13 hK14 hK15 hK16 hK17
              refine Hd.thenN ?_
              exact Hd.meet (cutQ x.id qs, remI x.id s, nx, af, lim) (by repeat (first | exact trivial | refine ⟨rfl, ?_⟩)) (Ent.sep (.pure (by have h1 := remI_len s x.id; exact ⟨by show (remI x.id s).length ≤ _; omega, by show nx ≤ _; omega, haf, hlim⟩) (.pick pkk (.pick pkk (.ex (r2, l3) (.pure hq3.1 enn))))))
            ·
              try simp only [decide_eq_true_eq, decide_eq_false_iff_not, Bool.and_eq_true, Bool.or_eq_true, Bool.and_eq_false_iff, Bool.or_eq_false_iff, Bool.not_eq_true', Bool.not_eq_false', Bool.not_eq_true, Bool.not_eq_false, Int.not_lt, Int.not_le, Decidable.not_not, ne_eq] at hc4
              refine Hd.seq (fun K18 hK18 => ?_)
              refine Hd.region ?_
              first | (refine Hd.yv (y_eqlT rfl rfl) ?_) | (refine Hd.yv (y_eql rfl rfl) ?_)
              refine Hd.yv (y_assign rfl) ?_
              refine Hd.nil ?_
              refine Hd.slots [(0, _), (3, _), (4, _), (5, _), (6, _), (7, _), (37, _), (83, _)] ⟨rfl, rfl, rfl, rfl, rfl, rfl, rfl, rfl, trivial⟩ ?_
              refine Hd.toK hK18 ?_
              refine Hd.cond rfl (fun hc5 => ?_) (fun hc5 => ?_)
              ·
                try simp only [decide_eq_true_eq, decide_eq_false_iff_not, Bool.and_eq_true, Bool.or_eq_true, Bool.and_eq_false_iff, Bool.or_eq_false_iff, Bool.not_eq_true', Bool.not_eq_false', Bool.not_eq_true, Bool.not_eq_false, Int.not_lt, Int.not_le, Decidable.not_not, ne_eq] at hc5
                refine Hd.seq (fun K19 hK19 => ?_)
                refine Hd.region ?_
                refine Hd.yv (y_move rfl) ?_
                first | (refine Hd.yv (y_field' (q := 1) (ft := 3) Try.underlying41 rfl sz3 rfl rfl) ?_) | (refine Hd.yv (y_fieldR (q := 1) (ft := 3) Try.underlying41 rfl sz3 rfl rfl) ?_)
                first | (refine Hd.yv (y_load1 ag3 rfl (Rd.pt1 pkk (by (first | rfl)))) ?_) | (refine Hd.yv (y_load1 ag3 rfl (Rd.seg1 pkk (by (first | rfl)))) ?_) | (refine Hd.yv (y_loadR1 ag3 rfl (by (first | exact RdS.own pkk | exact RdS.mono hR (Ent.sep enn))) (by (first | rfl))) ?_)
                refine Hd.callE rfl fk21 (tforget_ct _ b qs s nx af lim (by omega) x.id) (Ent.sep enn) ?_
                intro _
                refine Hd.nil ?_
                refine Hd.slots [(0, _), (3, _), (4, _), (5, _), (6, _), (7, _)] ⟨rfl, rfl, rfl, rfl, rfl, rfl, trivial⟩ ?_
                refine Hd.toK hK19 ?_
                refine Hd.region ?_
                refine Hd.yv (y_move rfl) ?_
                first | (refine Hd.yv (y_field' (q := 1) (ft := 3) Try.underlying41 rfl sz3 rfl rfl) ?_) | (refine Hd.yv (y_fieldR (q := 1) (ft := 3) Try.underlying41 rfl sz3 rfl rfl) ?_)
                first | (refine Hd.yv (y_load1 ag3 rfl (Rd.pt1 pkk (by (first | rfl)))) ?_) | (refine Hd.yv (y_load1 ag3 rfl (Rd.seg1 pkk (by (first | rfl)))) ?_) | (refine Hd.yv (y_loadR1 ag3 rfl (by (first | exact RdS.own pkk | exact RdS.mono hR (Ent.sep enn))) (by (first | rfl))) ?_)
                refine Hd.callE rfl fk28 (rtforget_ct _ b2 s nx af lim x.id) (Ent.sep enn) ?_
                intro _
                refine Hd.nil ?_
                refine Hd.slots [(0, _), (3, _), (4, _), (5, _), (6, _), (7, _)] ⟨rfl, rfl, rfl, rfl, rfl, rfl, trivial⟩ ?_
                refine Hd.inB ?_
                clear hK1 hK2 hK3 hK5 hK6 hK7 hK8 hK9 hK10 hK11 hK12 hK13 hK14 hK15 hK16 hK17 hK18 hK19
                refine Hd.thenN ?_
                exact Hd.meet (cutQ x.id qs, remI x.id s, nx, delA af x.id, lim) (by repeat (first | exact trivial | refine ⟨rfl, ?_⟩)) (Ent.sep (.pure (by have h1 := remI_len s x.id; exact ⟨by show (remI x.id s).length ≤ _; omega, by show nx ≤ _; omega, haf.del x.id, hlim⟩) enn))
              ·
                try simp only [decide_eq_true_eq, decide_eq_false_iff_not, Bool.and_eq_true, Bool.or_eq_true, Bool.and_eq_false_iff, Bool.or_eq_false_iff, Bool.not_eq_true', Bool.not_eq_false', Bool.not_eq_true, Bool.not_eq_false, Int.not_lt, Int.not_le, Decidable.not_not, ne_eq] at hc5
                refine Hd.seq (fun K20 hK20 => ?_)
                refine Hd.region ?_
                first | (refine Hd.yv (y_eqlT rfl rfl) ?_) | (refine Hd.yv (y_eql rfl rfl) ?_)
                refine Hd.yv (y_assign rfl) ?_
                refine Hd.nil ?_
                refine Hd.slots [(0, _), (3, _), (4, _), (5, _), (6, _), (7, _), (37, _), (93, _)] ⟨rfl, rfl, rfl, rfl, rfl, rfl, rfl, rfl, trivial⟩ ?_
                refine Hd.toK hK20 ?_
                refine Hd.cond rfl (fun hc6 => ?_) (fun hc6 => ?_)
                ·
                  try simp only [decide_eq_true_eq, decide_eq_false_iff_not, Bool.and_eq_true, Bool.or_eq_true, Bool.and_eq_false_iff, Bool.or_eq_false_iff, Bool.not_eq_true', Bool.not_eq_false', Bool.not_eq_true, Bool.not_eq_false, Int.not_lt, Int.not_le, Decidable.not_not, ne_eq] at hc6
                  refine Hd.seq (fun K21 hK21 => ?_)
                  refine Hd.region ?_
                  refine Hd.yv (y_move rfl) ?_
                  first | (refine Hd.yv (y_field' (q := 2) (ft := 23) Try.underlying41 rfl sz23 rfl rfl) ?_) | (refine Hd.yv (y_fieldR (q := 2) (ft := 23) Try.underlying41 rfl sz23 rfl rfl) ?_)
                  first | (refine Hd.yv (y_load1 ag23 rfl (Rd.pt1 pkk (by (first | rfl)))) ?_) | (refine Hd.yv (y_load1 ag23 rfl (Rd.seg1 pkk (by (first | rfl)))) ?_) | (refine Hd.yv (y_loadR1 ag23 rfl (by (first | exact RdS.own pkk | exact RdS.mono hR (Ent.sep enn))) (by (first | rfl))) ?_)
                  refine Hd.callE rfl fk16 (tdue_ct _ b qs s nx af lim (by omega) x.now) (Ent.sep enn) ?_
                  rintro ⟨a1, c1⟩
                  dsimp only
                  refine Hd.yv (y_assign rfl) ?_
                  refine Hd.nil ?_
                  refine Hd.slots [(0, _), (3, _), (4, _), (5, _), (6, _), (8, _)] ⟨rfl, rfl, rfl, rfl, rfl, rfl, trivial⟩ ?_
                  refine Hd.toK hK21 ?_
                  refine Hd.region ?_
                  refine Hd.yv (y_move rfl) ?_
                  refine Hd.yv (y_move rfl) ?_
                  first | (refine Hd.yv (y_field' (q := 2) (ft := 23) Try.underlying41 rfl sz23 rfl rfl) ?_) | (refine Hd.yv (y_fieldR (q := 2) (ft := 23) Try.underlying41 rfl sz23 rfl rfl) ?_)
                  first | (refine Hd.yv (y_load1 ag23 rfl (Rd.pt1 pkk (by (first | rfl)))) ?_) | (refine Hd.yv (y_load1 ag23 rfl (Rd.seg1 pkk (by (first | rfl)))) ?_) | (refine Hd.yv (y_loadR1 ag23 rfl (by (first | exact RdS.own pkk | exact RdS.mono hR (Ent.sep enn))) (by (first | rfl))) ?_)
                  refine Hd.callE rfl fk29 (rtdue_ct _ b2 s nx af lim hF hat (CoF.nin hcf) x.now) (Ent.sep enn) ?_
                  rintro ⟨a2, c3⟩
                  dsimp only
                  have hdl : (du x.now s).length ≤ s.length := (List.takeWhile_sublist _).length_le
                  refine Hd.callE rfl fk23 (same_ct _ a1 (du x.now s).length c1 ((du x.now s).map It.id) (by simp) (by omega) ?h1 a2 (du x.now s).length c3 ((du x.now s).map It.id) (by simp) ?h2) (Ent.sep enn) ?_
                  case h1 => rw [← eN_eI]; exact RdS.own (ad := a1) pkk
                  case h2 => rw [← eN_eI]; exact RdS.own (ad := a2) pkk
                  intro bb
                  refine Hd.pure (fun hbb => ?_)
                  obtain rfl : bb = true := by rw [hbb]; simp
                  refine Hd.yv (y_assign rfl) ?_
                  refine Hd.nil ?_
                  refine Hd.slots [(0, _), (3, _), (4, _), (5, _), (6, _), (7, _)] ⟨rfl, rfl, rfl, rfl, rfl, rfl, trivial⟩ ?_
                  refine Hd.inB ?_
                  clear hK1 hK2 hK3 hK5 hK6 hK7 hK8 hK9 hK10 hK11 hK12 hK13 hK14 hK15 hK16 hK17 hK18 hK20 hK21
                  refine Hd.thenN ?_
                  exact Hd.meet (cutAll (du x.now s) qs, restI (min x.now 18446744073709551614) s, nx, af, lim) (by repeat (first | exact trivial | refine ⟨rfl, ?_⟩)) (Ent.sep (.pure (by have h1 := restI_len s (min x.now 18446744073709551614); exact ⟨by show (restI _ s).length ≤ _; omega, by show nx ≤ _; omega, haf, hlim⟩) enn))
                ·
                  try simp only [decide_eq_true_eq, decide_eq_false_iff_not, Bool.and_eq_true, Bool.or_eq_true, Bool.and_eq_false_iff, Bool.or_eq_false_iff, Bool.not_eq_true', Bool.not_eq_false', Bool.not_eq_true, Bool.not_eq_false, Int.not_lt, Int.not_le, Decidable.not_not, ne_eq] at hc6
                  refine Hd.seq (fun K22 hK22 => ?_)
                  refine Hd.region ?_
                  first | (refine Hd.yv (y_eqlT rfl rfl) ?_) | (refine Hd.yv (y_eql rfl rfl) ?_)
                  refine Hd.yv (y_assign rfl) ?_
                  refine Hd.nil ?_
                  refine Hd.slots [(0, _), (3, _), (4, _), (5, _), (6, _), (7, _), (37, _), (105, _)] ⟨rfl, rfl, rfl, rfl, rfl, rfl, rfl, rfl, trivial⟩ ?_
                  refine Hd.toK hK22 ?_
                  refine Hd.cond rfl (fun hc7 => ?_) (fun hc7 => ?_)
                  ·
                    try simp only [decide_eq_true_eq, decide_eq_false_iff_not, Bool.and_eq_true, Bool.or_eq_true, Bool.and_eq_false_iff, Bool.or_eq_false_iff, Bool.not_eq_true', Bool.not_eq_false', Bool.not_eq_true, Bool.not_eq_false, Int.not_lt, Int.not_le, Decidable.not_not, ne_eq] at hc7
                    refine Hd.seq (fun K23 hK23 => ?_)
                    refine Hd.region ?_
                    refine Hd.yv (y_move rfl) ?_
                    first | (refine Hd.yv (y_field' (q := 3) (ft := 23) Try.underlying41 rfl sz23 rfl rfl) ?_) | (refine Hd.yv (y_fieldR (q := 3) (ft := 23) Try.underlying41 rfl sz23 rfl rfl) ?_)
                    first | (refine Hd.yv (y_load1 ag23 rfl (Rd.pt1 pkk (by (first | rfl)))) ?_) | (refine Hd.yv (y_load1 ag23 rfl (Rd.seg1 pkk (by (first | rfl)))) ?_) | (refine Hd.yv (y_loadR1 ag23 rfl (by (first | exact RdS.own pkk | exact RdS.mono hR (Ent.sep enn))) (by (first | rfl))) ?_)
                    refine Hd.callE rfl fk12 (tlimit_ct _ b qs s nx af lim x.af hok.2) (Ent.sep enn) ?_
                    intro _
                    refine Hd.nil ?_
                    refine Hd.slots [(0, _), (3, _), (4, _), (5, _), (6, _), (7, _)] ⟨rfl, rfl, rfl, rfl, rfl, rfl, trivial⟩ ?_
                    refine Hd.toK hK23 ?_
                    refine Hd.trA (b := b2) pkk (fun r2 l2 hr2 => ?_)
                    refine Hd.region ?_
                    refine Hd.yv (y_move rfl) ?_
                    first | (refine Hd.yv (y_field' (q := 3) (ft := 23) Try.underlying41 rfl sz23 rfl rfl) ?_) | (refine Hd.yv (y_fieldR (q := 3) (ft := 23) Try.underlying41 rfl sz23 rfl rfl) ?_)
                    first | (refine Hd.yv (y_load1 ag23 rfl (Rd.pt1 pkk (by (first | rfl)))) ?_) | (refine Hd.yv (y_load1 ag23 rfl (Rd.seg1 pkk (by (first | rfl)))) ?_) | (refine Hd.yv (y_loadR1 ag23 rfl (by (first | exact RdS.own pkk | exact RdS.mono hR (Ent.sep enn))) (by (first | rfl))) ?_)
                    refine Hd.yv (y_nilp rfl) ?_
                    first | (refine Hd.yv (y_field' (q := 2) (ft := 23) Try.underlying58 rfl sz23 rfl rfl) ?_) | (refine Hd.yv (y_fieldR (q := 2) (ft := 23) Try.underlying58 rfl sz23 rfl rfl) ?_)
                    first | (refine Hd.store1 sz23 rfl rfl rfl pkk (by first | decide | (simp; done) | (simp; omega)) ?_) | (refine Hd.storeG1 sz23 rfl rfl rfl pkk (by first | decide | (simp; done) | (simp; omega)) ?_) | (refine Hd.storeO1 sz23 rfl rfl rfl pkk (by first | omega | (simp; done) | (simp; omega)) ?_)
                    try simp only [List.set_cons_zero, List.set_cons_succ]
                    refine Hd.nil ?_
                    refine Hd.slots [(0, _), (3, _), (4, _), (5, _), (6, _), (7, _)] ⟨rfl, rfl, rfl, rfl, rfl, rfl, trivial⟩ ?_
                    refine Hd.inB ?_
                    clear hK1 hK2 hK3 hK5 hK6 hK7 hK8 hK9 hK10 hK11 hK12 hK13 hK14 hK15 hK16 hK17 hK18 hK20 hK22 hK23
                    refine Hd.thenN ?_
                    exact Hd.meet (qs, s, nx, af, x.af) (by repeat (first | exact trivial | refine ⟨rfl, ?_⟩)) (Ent.sep (.pure (by exact ⟨by show s.length ≤ _; omega, by show nx ≤ _; omega, haf, hok.2⟩) (.pick pkk (.pick pkk (.ex (r2, l2) (.pure hr2 (.eq pkk (pt_eq (by rfl)) enn)))))))
                  ·
                    try simp only [decide_eq_true_eq, decide_eq_false_iff_not, Bool.and_eq_true, Bool.or_eq_true, Bool.and_eq_false_iff, Bool.or_eq_false_iff, Bool.not_eq_true', Bool.not_eq_false', Bool.not_eq_true, Bool.not_eq_false, Int.not_lt, Int.not_le, Decidable.not_not, ne_eq] at hc7
                    refine Hd.seq (fun K24 hK24 => ?_)
                    refine Hd.region ?_
                    first | (refine Hd.yv (y_eqlT rfl rfl) ?_) | (refine Hd.yv (y_eql rfl rfl) ?_)
                    refine Hd.yv (y_assign rfl) ?_
                    refine Hd.nil ?_
                    refine Hd.slots [(0, _), (3, _), (4, _), (5, _), (6, _), (7, _), (116, _)] ⟨rfl, rfl, rfl, rfl, rfl, rfl, rfl, trivial⟩ ?_
                    refine Hd.toK hK24 ?_
                    refine Hd.cond rfl (fun hc8 => ?_) (fun hc8 => ?_)
                    ·
                      try simp only [decide_eq_true_eq, decide_eq_false_iff_not, Bool.and_eq_true, Bool.or_eq_true, Bool.and_eq_false_iff, Bool.or_eq_false_iff, Bool.not_eq_true', Bool.not_eq_false', Bool.not_eq_true, Bool.not_eq_false, Int.not_lt, Int.not_le, Decidable.not_not, ne_eq] at hc8
                      refine Hd.region ?_
                      refine Hd.yv (y_move rfl) ?_
                      first | (refine Hd.yv (y_field' (q := 3) (ft := 23) Try.underlying41 rfl sz23 rfl rfl) ?_) | (refine Hd.yv (y_fieldR (q := 3) (ft := 23) Try.underlying41 rfl sz23 rfl rfl) ?_)
                      first | (refine Hd.yv (y_load1 ag23 rfl (Rd.pt1 pkk (by (first | rfl)))) ?_) | (refine Hd.yv (y_load1 ag23 rfl (Rd.seg1 pkk (by (first | rfl)))) ?_) | (refine Hd.yv (y_loadR1 ag23 rfl (by (first | exact RdS.own pkk | exact RdS.mono hR (Ent.sep enn))) (by (first | rfl))) ?_)
                      refine Hd.callE rfl fk11 (tcommon_ct _ b qs s nx af lim x.af) (Ent.sep enn) ?_
                      intro _
                      refine Hd.nil ?_
                      refine Hd.slots [(0, _), (3, _), (4, _), (5, _), (6, _), (7, _)] ⟨rfl, rfl, rfl, rfl, rfl, rfl, trivial⟩ ?_
                      refine Hd.inB ?_
                      clear hK1 hK2 hK3 hK5 hK6 hK7 hK8 hK9 hK10 hK11 hK12 hK13 hK14 hK15 hK16 hK17 hK18 hK20 hK22 hK24
                      refine Hd.thenN ?_
                      exact Hd.meet (mkS qs x.af, s, nx, af, lim) (by repeat (first | exact trivial | refine ⟨rfl, ?_⟩)) (Ent.sep (.pure (by exact ⟨by show s.length ≤ _; omega, by show nx ≤ _; omega, haf, hlim⟩) enn))
                    ·
                      try simp only [decide_eq_true_eq, decide_eq_false_iff_not, Bool.and_eq_true, Bool.or_eq_true, Bool.and_eq_false_iff, Bool.or_eq_false_iff, Bool.not_eq_true', Bool.not_eq_false', Bool.not_eq_true, Bool.not_eq_false, Int.not_lt, Int.not_le, Decidable.not_not, ne_eq] at hc8
                      refine Hd.skip ?_
                      refine Hd.inB ?_
                      clear hK1 hK2 hK3 hK5 hK6 hK7 hK8 hK9 hK10 hK11 hK12 hK13 hK14 hK15 hK16 hK17 hK18 hK20 hK22 hK24
                      refine Hd.thenN ?_
                      exact Hd.meet (qs, s, nx, af, lim) (by repeat (first | exact trivial | refine ⟨rfl, ?_⟩)) (Ent.sep (.pure (by exact ⟨by show s.length ≤ _; omega, by show nx ≤ _; omega, haf, hlim⟩) enn))
      ·
        rintro ⟨qt, s2, n2, f2, m2⟩
        refine Hd.pure (fun hs2 => ?_)
        dsimp only at hs2
        dsimp only
        obtain ⟨hs2l, hn2l, hf2, hm2⟩ := hs2
        refine Hd.tmF (b := b) pkk (fun hcf2 hat2 => ?_)
        have hF2 := hcf2.hF
        refine Hd.seq (fun K25 hK25 => ?_)
        refine Hd.region ?_
        refine Hd.yv (y_move rfl) ?_
        first | (refine Hd.yv (y_field' (q := 2) (ft := 23) Try.underlying41 rfl sz23 rfl rfl) ?_) | (refine Hd.yv (y_fieldR (q := 2) (ft := 23) Try.underlying41 rfl sz23 rfl rfl) ?_)
        first | (refine Hd.yv (y_load1 ag23 rfl (Rd.pt1 pkk (by (first | rfl)))) ?_) | (refine Hd.yv (y_load1 ag23 rfl (Rd.seg1 pkk (by (first | rfl)))) ?_) | (refine Hd.yv (y_loadR1 ag23 rfl (by (first | exact RdS.own pkk | exact RdS.mono hR (Ent.sep enn))) (by (first | rfl))) ?_)
        first | (refine Hd.yv (y_field' (q := 4) (ft := 4) Try.underlying41 rfl sz4 rfl rfl) ?_) | (refine Hd.yv (y_fieldR (q := 4) (ft := 4) Try.underlying41 rfl sz4 rfl rfl) ?_)
        first | (refine Hd.yv (y_load1 ag4 rfl (Rd.pt1 pkk (by (first | rfl)))) ?_) | (refine Hd.yv (y_load1 ag4 rfl (Rd.seg1 pkk (by (first | rfl)))) ?_) | (refine Hd.yv (y_loadR1 ag4 rfl (by (first | exact RdS.own pkk | exact RdS.mono hR (Ent.sep enn))) (by (first | rfl))) ?_)
        refine Hd.callE rfl fk14 (twait_ct _ b qt s2 n2 f2 m2 x.now hok.1 x.busy) (Ent.sep enn) ?_
        intro _
        refine Hd.yv (y_move rfl) ?_
        refine Hd.yv (y_extract rfl rfl) ?_
        refine Hd.yv (y_extract rfl rfl) ?_
        refine Hd.yv (y_assign rfl) ?_
        refine Hd.yv (y_assign rfl) ?_
        refine Hd.nil ?_
        refine Hd.slots [(0, _), (3, _), (4, _), (5, _), (6, _), (7, _), (9, _), (10, _)] ⟨rfl, rfl, rfl, rfl, rfl, rfl, rfl, rfl, trivial⟩ ?_
        refine Hd.toK hK25 ?_
        refine Hd.seq (fun K26 hK26 => ?_)
        refine Hd.region ?_
        refine Hd.yv (y_move rfl) ?_
        first | (refine Hd.yv (y_field' (q := 2) (ft := 23) Try.underlying41 rfl sz23 rfl rfl) ?_) | (refine Hd.yv (y_fieldR (q := 2) (ft := 23) Try.underlying41 rfl sz23 rfl rfl) ?_)
        first | (refine Hd.yv (y_load1 ag23 rfl (Rd.pt1 pkk (by (first | rfl)))) ?_) | (refine Hd.yv (y_load1 ag23 rfl (Rd.seg1 pkk (by (first | rfl)))) ?_) | (refine Hd.yv (y_loadR1 ag23 rfl (by (first | exact RdS.own pkk | exact RdS.mono hR (Ent.sep enn))) (by (first | rfl))) ?_)
        first | (refine Hd.yv (y_field' (q := 4) (ft := 4) Try.underlying41 rfl sz4 rfl rfl) ?_) | (refine Hd.yv (y_fieldR (q := 4) (ft := 4) Try.underlying41 rfl sz4 rfl rfl) ?_)
        first | (refine Hd.yv (y_load1 ag4 rfl (Rd.pt1 pkk (by (first | rfl)))) ?_) | (refine Hd.yv (y_load1 ag4 rfl (Rd.seg1 pkk (by (first | rfl)))) ?_) | (refine Hd.yv (y_loadR1 ag4 rfl (by (first | exact RdS.own pkk | exact RdS.mono hR (Ent.sep enn))) (by (first | rfl))) ?_)
        refine Hd.callE rfl fk30 (rtwait_ct _ b2 s2 n2 f2 m2 hF2 hat2 hm2 x.now hok.1 x.busy) (Ent.sep enn) ?_
        intro _
        refine Hd.yv (y_move rfl) ?_
        refine Hd.yv (y_extract rfl rfl) ?_
        refine Hd.yv (y_extract rfl rfl) ?_
        refine Hd.yv (y_assign rfl) ?_
        refine Hd.yv (y_assign rfl) ?_
        refine Hd.nil ?_
        refine Hd.slots [(0, _), (3, _), (4, _), (5, _), (6, _), (7, _), (9, _), (10, _), (11, _), (12, _)] ⟨rfl, rfl, rfl, rfl, rfl, rfl, rfl, rfl, rfl, rfl, trivial⟩ ?_
        refine Hd.toK hK26 ?_
        refine Hd.seq (fun K27 hK27 => ?_)
        refine Hd.region ?_
        refine Hd.yv (y_move rfl) ?_
        first | (refine Hd.yv (y_field' (q := 1) (ft := 3) Try.underlying41 rfl sz3 rfl rfl) ?_) | (refine Hd.yv (y_fieldR (q := 1) (ft := 3) Try.underlying41 rfl sz3 rfl rfl) ?_)
        first | (refine Hd.yv (y_load1 ag3 rfl (Rd.pt1 pkk (by (first | rfl)))) ?_) | (refine Hd.yv (y_load1 ag3 rfl (Rd.seg1 pkk (by (first | rfl)))) ?_) | (refine Hd.yv (y_loadR1 ag3 rfl (by (first | exact RdS.own pkk | exact RdS.mono hR (Ent.sep enn))) (by (first | rfl))) ?_)
        refine Hd.callE rfl fk22 (tafter_ct _ b qt s2 n2 f2 m2 x.id) (Ent.sep enn) ?_
        intro _
        refine Hd.yv (y_move rfl) ?_
        refine Hd.yv (y_extract rfl rfl) ?_
        refine Hd.yv (y_extract rfl rfl) ?_
        refine Hd.yv (y_assign rfl) ?_
        refine Hd.yv (y_assign rfl) ?_
        refine Hd.nil ?_
        refine Hd.slots [(0, _), (3, _), (4, _), (5, _), (6, _), (7, _), (9, _), (10, _), (11, _), (12, _), (13, _), (14, _)] ⟨rfl, rfl, rfl, rfl, rfl, rfl, rfl, rfl, rfl, rfl, rfl, rfl, trivial⟩ ?_
        refine Hd.toK hK27 ?_
        refine Hd.seq (fun K28 hK28 => ?_)
        refine Hd.region ?_
        refine Hd.yv (y_move rfl) ?_
        first | (refine Hd.yv (y_field' (q := 1) (ft := 3) Try.underlying41 rfl sz3 rfl rfl) ?_) | (refine Hd.yv (y_fieldR (q := 1) (ft := 3) Try.underlying41 rfl sz3 rfl rfl) ?_)
        first | (refine Hd.yv (y_load1 ag3 rfl (Rd.pt1 pkk (by (first | rfl)))) ?_) | (refine Hd.yv (y_load1 ag3 rfl (Rd.seg1 pkk (by (first | rfl)))) ?_) | (refine Hd.yv (y_loadR1 ag3 rfl (by (first | exact RdS.own pkk | exact RdS.mono hR (Ent.sep enn))) (by (first | rfl))) ?_)
        first | (refine Hd.yv (y_field' (q := 2) (ft := 23) Try.underlying41 rfl sz23 rfl rfl) ?_) | (refine Hd.yv (y_fieldR (q := 2) (ft := 23) Try.underlying41 rfl sz23 rfl rfl) ?_)
        first | (refine Hd.yv (y_load1 ag23 rfl (Rd.pt1 pkk (by (first | rfl)))) ?_) | (refine Hd.yv (y_load1 ag23 rfl (Rd.seg1 pkk (by (first | rfl)))) ?_) | (refine Hd.yv (y_loadR1 ag23 rfl (by (first | exact RdS.own pkk | exact RdS.mono hR (Ent.sep enn))) (by (first | rfl))) ?_)
        refine Hd.callE rfl fk18 (tleft_ct _ b qt s2 n2 f2 m2 x.id x.now hok.1) (Ent.sep enn) ?_
        intro _
        refine Hd.yv (y_move rfl) ?_
        refine Hd.yv (y_extract rfl rfl) ?_
        refine Hd.yv (y_extract rfl rfl) ?_
        refine Hd.yv (y_assign rfl) ?_
        refine Hd.yv (y_assign rfl) ?_
        refine Hd.nil ?_
        refine Hd.slots [(0, _), (3, _), (4, _), (5, _), (6, _), (7, _), (9, _), (10, _), (11, _), (12, _), (13, _), (14, _), (15, _), (16, _)] ⟨rfl, rfl, rfl, rfl, rfl, rfl, rfl, rfl, rfl, rfl, rfl, rfl, rfl, rfl, trivial⟩ ?_
        refine Hd.toK hK28 ?_
        refine Hd.seq (fun K29 hK29 => ?_)
        refine Hd.trA (b := b2) pkk (fun r2 l2 hr2 => ?_)
        have hl2 := hr2.len
        refine Hd.region ?_
        refine Hd.yv (y_move rfl) ?_
        first | (refine Hd.yv (y_field' (q := 1) (ft := 3) Try.underlying41 rfl sz3 rfl rfl) ?_) | (refine Hd.yv (y_fieldR (q := 1) (ft := 3) Try.underlying41 rfl sz3 rfl rfl) ?_)
        first | (refine Hd.yv (y_load1 ag3 rfl (Rd.pt1 pkk (by (first | rfl)))) ?_) | (refine Hd.yv (y_load1 ag3 rfl (Rd.seg1 pkk (by (first | rfl)))) ?_) | (refine Hd.yv (y_loadR1 ag3 rfl (by (first | exact RdS.own pkk | exact RdS.mono hR (Ent.sep enn))) (by (first | rfl))) ?_)
        refine Hd.callE rfl fk31 (rtfind_ct _ b2 l2 n2 m2 r2 (by omega) x.id) (Ent.sep enn) ?_
        intro _
        obtain ⟨k, y, hky⟩ : ∃ (k : Nat) (y : On), ¬ fx x.id l2 < 0 → fx x.id l2 = (k : Int) ∧ k < l2.length ∧ l2[k]? = some y := by
          refine ex_at ?_
          rcases fx_cases (id := x.id) hr2.rel.nd with ⟨e, _⟩ | ⟨pre, z, post, ha, e, h1, h2⟩
          · left; omega
          · exact .inr ⟨_, z, e, h2⟩
        have hleft := hr2.rel.left hF2.nd x.id x.now hky
        have hafv := hr2.rel.afv x.id hky
        have his := hr2.rel.is x.id
        have hcn : cn l2 = s2.length := hr2.rel.len
        obtain ⟨v, hv⟩ : ∃ v, v = fx x.id l2 := ⟨_, rfl⟩
        rw [show idxA x.id (l2.map On.id) 0 = v from hv.symm] at his ⊢
        rw [← hv] at hky hleft hafv
        refine Hd.yv (y_assign rfl) ?_
        refine Hd.nil ?_
        refine Hd.slots [(0, _), (3, _), (4, _), (5, _), (6, _), (7, _), (9, _), (10, _), (11, _), (12, _), (13, _), (14, _), (15, _), (16, _), (17, _)] ⟨rfl, rfl, rfl, rfl, rfl, rfl, rfl, rfl, rfl, rfl, rfl, rfl, rfl, rfl, rfl, trivial⟩ ?_
        refine Hd.toK hK29 ?_
        refine Hd.seq (fun K30 hK30 => ?_)
        refine Hd.quiet mixed (by kernel_rfl) ?_
        refine Hq.yv (y_move rfl) ?_
        refine Hq.yv (y_nilp rfl) ?_
        first | (refine Hq.yv (y_field' (q := 2) (ft := 23) Try.underlying58 rfl sz23 rfl rfl) ?_) | (refine Hq.yv (y_fieldR (q := 2) (ft := 23) Try.underlying58 rfl sz23 rfl rfl) ?_)
        first | (refine Hq.yv (y_load1 ag23 rfl (Rd.pt1 pkk (by (first | rfl)))) ?_) | (refine Hq.yv (y_load1 ag23 rfl (Rd.seg1 pkk (by (first | rfl)))) ?_) | (refine Hq.yv (y_loadR1 ag23 rfl (by (first | exact RdS.own pkk | exact RdS.mono hR (Ent.sep enn))) (by (first | rfl))) ?_)
        refine Hq.yv (y_neq rfl rfl) ?_
        refine Hq.yv (y_move rfl) ?_
        apply Hq.andg 8 165 173 [(0, _), (3, _), (4, _), (5, _), (6, _), (7, _), (9, _), (10, _), (11, _), (12, _), (13, _), (14, _), (15, _), (16, _), (17, _)] rfl ⟨rfl, rfl, rfl, rfl, rfl, rfl, rfl, rfl, rfl, rfl, rfl, rfl, rfl, rfl, rfl, trivial⟩
        · intro hg33_165
          try simp only [decide_eq_true_eq, decide_eq_false_iff_not, Bool.and_eq_true, Bool.or_eq_true, Bool.and_eq_false_iff, Bool.or_eq_false_iff, Bool.not_eq_true', Bool.not_eq_false', Bool.not_eq_true, Bool.not_eq_false, Int.not_lt, Int.not_le, Decidable.not_not, ne_eq] at hg33_165
          simp only [List.take]
          refine Hq.yg rfl rfl (y_move rfl) ?_
          refine Hq.yg rfl rfl (y_nilp rfl) ?_
          first | (refine Hq.yg rfl rfl (y_field' (q := 2) (ft := 23) Try.underlying58 rfl sz23 rfl rfl) ?_) | (refine Hq.yg rfl rfl (y_fieldR (q := 2) (ft := 23) Try.underlying58 rfl sz23 rfl rfl) ?_)
          first | (refine Hq.yg rfl rfl (y_load1 ag23 rfl (Rd.pt1 pkk (by (first | rfl)))) ?_) | (refine Hq.yg rfl rfl (y_load1 ag23 rfl (Rd.seg1 pkk (by (first | rfl)))) ?_) | (refine Hq.yg rfl rfl (y_loadR1 ag23 rfl (by (first | exact RdS.own pkk | exact RdS.mono hR (Ent.sep enn))) (by (first | rfl))) ?_)
          first | (refine Hq.yg rfl rfl (y_field' (q := 2) (ft := 23) Try.underlying41 rfl sz23 rfl rfl) ?_) | (refine Hq.yg rfl rfl (y_fieldR (q := 2) (ft := 23) Try.underlying41 rfl sz23 rfl rfl) ?_)
          first | (refine Hq.yg rfl rfl (y_load1 ag23 rfl (Rd.pt1 pkk (by (first | rfl)))) ?_) | (refine Hq.yg rfl rfl (y_load1 ag23 rfl (Rd.seg1 pkk (by (first | rfl)))) ?_) | (refine Hq.yg rfl rfl (y_loadR1 ag23 rfl (by (first | exact RdS.own pkk | exact RdS.mono hR (Ent.sep enn))) (by (first | rfl))) ?_)
          refine Hq.yg rfl rfl (y_leq rfl rfl) ?_
          first | (refine Hq.yv (y_pickT rfl rfl) ?_) | (refine Hq.yv (y_pickF rfl rfl) ?_) | (refine Hq.yv (y_pickb rfl rfl rfl) ?_) | (refine Hq.yv (y_pick rfl rfl rfl) ?_)
          exact Hq.mend (by repeat (first | exact trivial | refine ⟨rfl, ?_⟩))
        · intro hg33_165
          try simp only [decide_eq_true_eq, decide_eq_false_iff_not, Bool.and_eq_true, Bool.or_eq_true, Bool.and_eq_false_iff, Bool.or_eq_false_iff, Bool.not_eq_true', Bool.not_eq_false', Bool.not_eq_true, Bool.not_eq_false, Int.not_lt, Int.not_le, Decidable.not_not, ne_eq] at hg33_165
          simp only [List.take]
          refine Hq.ng rfl rfl rfl ?_
          refine Hq.ng rfl rfl rfl ?_
          refine Hq.ng rfl rfl rfl ?_
          refine Hq.ng rfl rfl rfl ?_
          refine Hq.ng rfl rfl rfl ?_
          refine Hq.ng rfl rfl rfl ?_
          refine Hq.ng rfl rfl rfl ?_
          first | (refine Hq.yv (y_pickT rfl rfl) ?_) | (refine Hq.yv (y_pickF rfl rfl) ?_) | (refine Hq.yv (y_pickb rfl rfl rfl) ?_) | (refine Hq.yv (y_pick rfl rfl rfl) ?_)
          exact Hq.mend (by repeat (first | exact trivial | refine ⟨rfl, ?_⟩))
        simp only [List.drop]
        refine Hq.yv (y_assign rfl) ?_
        refine Hq.nil ?_
        refine Hd.slots [(0, _), (3, _), (4, _), (5, _), (6, _), (7, _), (9, _), (10, _), (11, _), (12, _), (13, _), (14, _), (15, _), (16, _), (17, _), (18, _)] ⟨rfl, rfl, rfl, rfl, rfl, rfl, rfl, rfl, rfl, rfl, rfl, rfl, rfl, rfl, rfl, rfl, trivial⟩ ?_
        refine Hd.toK hK30 ?_
        refine Hd.cutK (ι := Unit) [(0, _), (3, _), (4, _), (5, _), (6, _), (15, _), (16, _), (17, _)] (fun _ => []) (fun _ => pt b6 (encO x) 41 :: TmA b qt s2 n2 f2 m2 :: TrL b2 l2 n2 m2 r2 L) ?_ ?_ ⟨rfl, rfl, rfl, rfl, rfl, rfl, rfl, rfl, trivial⟩
        ·
          refine Hd.seq (fun K31 hK31 => ?_)
          refine Hd.region ?_
          refine Hd.yv (y_move rfl) ?_
          refine Hd.yv (y_not rfl) ?_
          refine Hd.yv (y_move rfl) ?_
          refine Hd.yg rfl rfl (y_move rfl) ?_
          refine Hd.yg rfl rfl (y_move rfl) ?_
          refine Hd.yg rfl rfl (y_to (v' := .bool false) (y_neq rfl rfl) (by simp)) ?_
          first | (refine Hd.yv (y_pickT rfl rfl) ?_) | (refine Hd.yv (y_pickF rfl rfl) ?_) | (refine Hd.yv (y_pickb rfl rfl rfl) ?_) | (refine Hd.yv (y_pick rfl rfl rfl) ?_)
          refine Hd.yv (y_move rfl) ?_
          refine Hd.yg rfl rfl (y_move rfl) ?_
          refine Hd.yg rfl rfl (y_move rfl) ?_
          refine Hd.yg rfl rfl (y_to (v' := .bool false) (y_neqb Try.underlying4 rfl rfl) (by simp)) ?_
          first | (refine Hd.yv (y_pickT rfl rfl) ?_) | (refine Hd.yv (y_pickF rfl rfl) ?_) | (refine Hd.yv (y_pickb rfl rfl rfl) ?_) | (refine Hd.yv (y_pick rfl rfl rfl) ?_)
          refine Hd.yv (y_move rfl) ?_
          refine Hd.yg rfl rfl (y_move rfl) ?_
          refine Hd.unguard rfl rfl ?_
          refine Hd.callE rfl fk15 (tlen_ct _ b qt s2 n2 f2 m2) (Ent.sep enn) ?_
          intro _
          refine Hd.yg rfl rfl (y_move rfl) ?_
          refine Hd.unguard rfl rfl ?_
          refine Hd.callE rfl fk32 (rtlen_ct _ b2 n2 m2 l2 r2 (by omega)) (Ent.sep enn) ?_
          intro _
          refine Hd.yg rfl rfl (y_to (v' := .bool false) (y_neq rfl rfl) (by (rw [hcn]; simp))) ?_
          first | (refine Hd.yv (y_pickT rfl rfl) ?_) | (refine Hd.yv (y_pickF rfl rfl) ?_) | (refine Hd.yv (y_pickb rfl rfl rfl) ?_) | (refine Hd.yv (y_pick rfl rfl rfl) ?_)
          refine Hd.yv (y_move rfl) ?_
          refine Hd.yg rfl rfl (y_move rfl) ?_
          first | (refine Hd.yg rfl rfl (y_field' (q := 2) (ft := 23) Try.underlying41 rfl sz23 rfl rfl) ?_) | (refine Hd.yg rfl rfl (y_fieldR (q := 2) (ft := 23) Try.underlying41 rfl sz23 rfl rfl) ?_)
          first | (refine Hd.yg rfl rfl (y_load1 ag23 rfl (Rd.pt1 pkk (by (first | rfl)))) ?_) | (refine Hd.yg rfl rfl (y_load1 ag23 rfl (Rd.seg1 pkk (by (first | rfl)))) ?_) | (refine Hd.yg rfl rfl (y_loadR1 ag23 rfl (by (first | exact RdS.own pkk | exact RdS.mono hR (Ent.sep enn))) (by (first | rfl))) ?_)
          refine Hd.unguard rfl rfl ?_
          refine Hd.callE rfl fk17 (tover_ct _ b qt s2 n2 f2 m2 x.now) (Ent.sep enn) ?_
          intro _
          refine Hd.yg rfl rfl (y_move rfl) ?_
          refine Hd.yg rfl rfl (y_to (v' := .bool false) (y_neqb Try.underlying4 rfl rfl) (by simp)) ?_
          first | (refine Hd.yv (y_pickT rfl rfl) ?_) | (refine Hd.yv (y_pickF rfl rfl) ?_) | (refine Hd.yv (y_pickb rfl rfl rfl) ?_) | (refine Hd.yv (y_pick rfl rfl rfl) ?_)
          refine Hd.yv (y_move rfl) ?_
          refine Hd.yg rfl rfl (y_move rfl) ?_
          refine Hd.yg rfl rfl (y_move rfl) ?_
          refine Hd.yg rfl rfl (y_geq rfl rfl) ?_
          refine Hd.yg rfl rfl (y_to (v' := .bool false) (y_neqb Try.underlying4 rfl rfl) (by (rw [his]; simp))) ?_
          first | (refine Hd.yv (y_pickT rfl rfl) ?_) | (refine Hd.yv (y_pickF rfl rfl) ?_) | (refine Hd.yv (y_pickb rfl rfl rfl) ?_) | (refine Hd.yv (y_pick rfl rfl rfl) ?_)
          refine Hd.yv (y_move rfl) ?_
          refine Hd.yg rfl rfl (y_move rfl) ?_
          refine Hd.yg rfl rfl (y_move rfl) ?_
          apply Hd.andg (q := false) 11 209 220 [(0, _), (3, _), (4, _), (5, _), (6, _), (13, _), (14, _), (15, _), (16, _), (17, _), (207, _)] rfl ⟨rfl, rfl, rfl, rfl, rfl, rfl, rfl, rfl, rfl, rfl, rfl, trivial⟩
          · intro hg34_209
            try simp only [decide_eq_true_eq, decide_eq_false_iff_not, Bool.and_eq_true, Bool.or_eq_true, Bool.and_eq_false_iff, Bool.or_eq_false_iff, Bool.not_eq_true', Bool.not_eq_false', Bool.not_eq_true, Bool.not_eq_false, Int.not_lt, Int.not_le, Decidable.not_not, ne_eq] at hg34_209
            simp only [List.take]
            refine Hd.yg rfl rfl (y_move rfl) ?_
            refine Hd.yg rfl rfl (y_move rfl) ?_
            refine Hd.yg rfl rfl (y_nilp rfl) ?_
            first | (refine Hd.yg rfl rfl (y_field' (q := 0) (ft := 56) Try.underlying58 rfl sz56 rfl rfl) ?_) | (refine Hd.yg rfl rfl (y_fieldR (q := 0) (ft := 56) Try.underlying58 rfl sz56 rfl rfl) ?_)
            first | (refine Hd.yg rfl rfl (y_load1 ag56 rfl (Rd.pt1 pkk (by (first | rfl)))) ?_) | (refine Hd.yg rfl rfl (y_load1 ag56 rfl (Rd.seg1 pkk (by (first | rfl)))) ?_) | (refine Hd.yg rfl rfl (y_loadR1 ag56 rfl (by (first | exact RdS.own pkk | exact RdS.mono hR (Ent.sep enn))) (by (first | rfl))) ?_)
            refine Hd.yg rfl rfl (y_move rfl) ?_
            have hk1 := hafv hg34_209
            have hk2 := hky hk1.1
            refine Hd.yg rfl rfl (y_idxR (j := k) Try.underlying56 sz61 rfl (by exact congrArg (fun z => some (Value.int .i64 z)) hk2.1) hk2.2.1 (RdS.own (ad := r2.1) (us := l2.flatMap encT) pkk)) ?_
            first | (refine Hd.yg rfl rfl (y_field' (q := 1) (ft := 23) Try.underlying61 rfl sz23 rfl rfl) ?_) | (refine Hd.yg rfl rfl (y_fieldR (q := 1) (ft := 23) Try.underlying61 rfl sz23 rfl rfl) ?_)
            refine Hd.yg rfl rfl (y_loadR1 ag23 rfl (RdS.own (ad := r2.1) (us := l2.flatMap encT) pkk) (flat_cells encT 5 (fun _ => rfl) hk2.2.2 1 _ rfl)) ?_
            refine Hd.yg rfl rfl (y_to (v' := .bool false) (y_neq rfl rfl) (by (rw [hk1.2]; simp))) ?_
            first | (refine Hd.yg rfl rfl (y_pickT rfl rfl) ?_) | (refine Hd.yg rfl rfl (y_pickF rfl rfl) ?_) | (refine Hd.yg rfl rfl (y_pickb rfl rfl rfl) ?_) | (refine Hd.yg rfl rfl (y_pick rfl rfl rfl) ?_)
            refine Hd.nil ?_
            exact Hd.mend (by repeat (first | exact trivial | refine ⟨rfl, ?_⟩)) (Ent.sep enn)
          · intro hg34_209
            try simp only [decide_eq_true_eq, decide_eq_false_iff_not, Bool.and_eq_true, Bool.or_eq_true, Bool.and_eq_false_iff, Bool.or_eq_false_iff, Bool.not_eq_true', Bool.not_eq_false', Bool.not_eq_true, Bool.not_eq_false, Int.not_lt, Int.not_le, Decidable.not_not, ne_eq] at hg34_209
            simp only [List.take]
            refine Hd.ng rfl rfl rfl ?_
            refine Hd.ng rfl rfl rfl ?_
            refine Hd.ng rfl rfl rfl ?_
            refine Hd.ng rfl rfl rfl ?_
            refine Hd.ng rfl rfl rfl ?_
            refine Hd.ng rfl rfl rfl ?_
            refine Hd.ng rfl rfl rfl ?_
            refine Hd.ng rfl rfl rfl ?_
            refine Hd.ng rfl rfl rfl ?_
            refine Hd.ng rfl rfl rfl ?_
            first | (refine Hd.yg rfl rfl (y_pickT rfl rfl) ?_) | (refine Hd.yg rfl rfl (y_pickF rfl rfl) ?_) | (refine Hd.yg rfl rfl (y_pickb rfl rfl rfl) ?_) | (refine Hd.yg rfl rfl (y_pick rfl rfl rfl) ?_)
            refine Hd.nil ?_
            exact Hd.mend (by repeat (first | exact trivial | refine ⟨rfl, ?_⟩)) (Ent.sep enn)
          simp only [List.drop]
          first | (refine Hd.yv (y_to (v' := .bool false) (y_pickT rfl rfl) (by simp)) ?_) | (refine Hd.yv (y_to (v' := .bool false) (y_pickF rfl rfl) (by simp)) ?_) | (refine Hd.yv (y_to (v' := .bool false) (y_pickb rfl rfl rfl) (by simp)) ?_) | (refine Hd.yv (y_to (v' := .bool false) (y_pick rfl rfl rfl) (by simp)) ?_)
          refine Hd.yv (y_move rfl) ?_
          refine Hd.yg rfl rfl (y_move rfl) ?_
          refine Hd.yg rfl rfl (y_not rfl) ?_
          refine Hd.yg rfl rfl (y_move rfl) ?_
          apply Hd.andg (q := false) 3 225 228 [(0, _), (3, _), (4, _), (5, _), (6, _), (15, _), (16, _), (17, _), (222, _)] rfl ⟨rfl, rfl, rfl, rfl, rfl, rfl, rfl, rfl, rfl, trivial⟩
          · intro hg34_225
            try simp only [decide_eq_true_eq, decide_eq_false_iff_not, Bool.and_eq_true, Bool.or_eq_true, Bool.and_eq_false_iff, Bool.or_eq_false_iff, Bool.not_eq_true', Bool.not_eq_false', Bool.not_eq_true, Bool.not_eq_false, Int.not_lt, Int.not_le, Decidable.not_not, ne_eq] at hg34_225
            simp only [List.take]
            refine Hd.yg rfl rfl (y_move rfl) ?_
            refine Hd.yg rfl rfl (y_to (v' := .bool false) (y_neq rfl rfl) (by (first | (have h := hg34_225; cases hz : f2 x.id with | none => simp | some z => rw [hz] at h; cases h)))) ?_
            first | (refine Hd.yg rfl rfl (y_pickT rfl rfl) ?_) | (refine Hd.yg rfl rfl (y_pickF rfl rfl) ?_) | (refine Hd.yg rfl rfl (y_pickb rfl rfl rfl) ?_) | (refine Hd.yg rfl rfl (y_pick rfl rfl rfl) ?_)
            refine Hd.nil ?_
            exact Hd.mend (by repeat (first | exact trivial | refine ⟨rfl, ?_⟩)) (Ent.sep enn)
          · intro hg34_225
            try simp only [decide_eq_true_eq, decide_eq_false_iff_not, Bool.and_eq_true, Bool.or_eq_true, Bool.and_eq_false_iff, Bool.or_eq_false_iff, Bool.not_eq_true', Bool.not_eq_false', Bool.not_eq_true, Bool.not_eq_false, Int.not_lt, Int.not_le, Decidable.not_not, ne_eq] at hg34_225
            simp only [List.take]
            refine Hd.ng rfl rfl rfl ?_
            refine Hd.ng rfl rfl rfl ?_
            first | (refine Hd.yg rfl rfl (y_pickT rfl rfl) ?_) | (refine Hd.yg rfl rfl (y_pickF rfl rfl) ?_) | (refine Hd.yg rfl rfl (y_pickb rfl rfl rfl) ?_) | (refine Hd.yg rfl rfl (y_pick rfl rfl rfl) ?_)
            refine Hd.nil ?_
            exact Hd.mend (by repeat (first | exact trivial | refine ⟨rfl, ?_⟩)) (Ent.sep enn)
          simp only [List.drop]
          first | (refine Hd.yv (y_to (v' := .bool false) (y_pickT rfl rfl) (by simp)) ?_) | (refine Hd.yv (y_to (v' := .bool false) (y_pickF rfl rfl) (by simp)) ?_) | (refine Hd.yv (y_to (v' := .bool false) (y_pickb rfl rfl rfl) (by simp)) ?_) | (refine Hd.yv (y_to (v' := .bool false) (y_pick rfl rfl rfl) (by simp)) ?_)
          refine Hd.nil ?_
          refine Hd.slots [(0, _), (3, _), (4, _), (5, _), (6, _), (15, _), (16, _), (17, _), (229, _)] ⟨rfl, rfl, rfl, rfl, rfl, rfl, rfl, rfl, rfl, trivial⟩ ?_
          refine Hd.toK hK31 ?_
          refine Hd.condF rfl ?_
          refine Hd.skip ?_
          clear hK1 hK2 hK3 hK5 hK6 hK7 hK8 hK9 hK10 hK11 hK12 hK13 hK25 hK26 hK27 hK28 hK29 hK30 hK31
          refine Hd.thenN ?_
          exact Hd.meet () (by repeat (first | exact trivial | refine ⟨rfl, ?_⟩)) (Ent.sep enn)
        ·
          intro _
          refine Hd.seq (fun K32 hK32 => ?_)
          refine Hd.region ?_
          refine Hd.yv (y_assign rfl) ?_
          refine Hd.nil ?_
          refine Hd.slots [(0, _), (3, _), (4, _), (5, _), (6, _), (15, _), (16, _), (17, _), (19, _)] ⟨rfl, rfl, rfl, rfl, rfl, rfl, rfl, rfl, rfl, trivial⟩ ?_
          refine Hd.toK hK32 ?_
          refine Hd.seq (fun K33 hK33 => ?_)
          refine Hd.region ?_
          refine Hd.yv (y_move rfl) ?_
          refine Hd.yv (y_geq rfl rfl) ?_
          refine Hd.yv (y_move rfl) ?_
          apply Hd.andg 9 232 241 [(0, _), (3, _), (4, _), (5, _), (6, _), (15, _), (16, _), (17, _), (19, _)] rfl ⟨rfl, rfl, rfl, rfl, rfl, rfl, rfl, rfl, rfl, trivial⟩
          · intro hg37_232
            try simp only [decide_eq_true_eq, decide_eq_false_iff_not, Bool.and_eq_true, Bool.or_eq_true, Bool.and_eq_false_iff, Bool.or_eq_false_iff, Bool.not_eq_true', Bool.not_eq_false', Bool.not_eq_true, Bool.not_eq_false, Int.not_lt, Int.not_le, Decidable.not_not, ne_eq] at hg37_232
            simp only [List.take]
            refine Hd.yg rfl rfl (y_move rfl) ?_
            refine Hd.yg rfl rfl (y_nilp rfl) ?_
            first | (refine Hd.yg rfl rfl (y_field' (q := 0) (ft := 56) Try.underlying58 rfl sz56 rfl rfl) ?_) | (refine Hd.yg rfl rfl (y_fieldR (q := 0) (ft := 56) Try.underlying58 rfl sz56 rfl rfl) ?_)
            first | (refine Hd.yg rfl rfl (y_load1 ag56 rfl (Rd.pt1 pkk (by (first | rfl)))) ?_) | (refine Hd.yg rfl rfl (y_load1 ag56 rfl (Rd.seg1 pkk (by (first | rfl)))) ?_) | (refine Hd.yg rfl rfl (y_loadR1 ag56 rfl (by (first | exact RdS.own pkk | exact RdS.mono hR (Ent.sep enn))) (by (first | rfl))) ?_)
            refine Hd.yg rfl rfl (y_move rfl) ?_
            have hk1 := hky (by omega)
            refine Hd.yg rfl rfl (y_idxR (j := k) Try.underlying56 sz61 rfl (by exact congrArg (fun z => some (Value.int .i64 z)) hk1.1) hk1.2.1 (RdS.own (ad := r2.1) (us := l2.flatMap encT) pkk)) ?_
            first | (refine Hd.yg rfl rfl (y_field' (q := 2) (ft := 4) Try.underlying61 rfl sz4 rfl rfl) ?_) | (refine Hd.yg rfl rfl (y_fieldR (q := 2) (ft := 4) Try.underlying61 rfl sz4 rfl rfl) ?_)
            refine Hd.yg rfl rfl (y_loadR1 ag4 rfl (RdS.own (ad := r2.1) (us := l2.flatMap encT) pkk) (flat_cells encT 5 (fun _ => rfl) hk1.2.2 2 _ rfl)) ?_
            first | (refine Hd.yv (y_pickT rfl rfl) ?_) | (refine Hd.yv (y_pickF rfl rfl) ?_) | (refine Hd.yv (y_pickb rfl rfl rfl) ?_) | (refine Hd.yv (y_pick rfl rfl rfl) ?_)
            refine Hd.nil ?_
            exact Hd.mend (by repeat (first | exact trivial | refine ⟨rfl, ?_⟩)) (Ent.sep enn)
          · intro hg37_232
            try simp only [decide_eq_true_eq, decide_eq_false_iff_not, Bool.and_eq_true, Bool.or_eq_true, Bool.and_eq_false_iff, Bool.or_eq_false_iff, Bool.not_eq_true', Bool.not_eq_false', Bool.not_eq_true, Bool.not_eq_false, Int.not_lt, Int.not_le, Decidable.not_not, ne_eq] at hg37_232
            simp only [List.take]
            refine Hd.ng rfl rfl rfl ?_
            refine Hd.ng rfl rfl rfl ?_
            refine Hd.ng rfl rfl rfl ?_
            refine Hd.ng rfl rfl rfl ?_
            refine Hd.ng rfl rfl rfl ?_
            refine Hd.ng rfl rfl rfl ?_
            refine Hd.ng rfl rfl rfl ?_
            refine Hd.ng rfl rfl rfl ?_
            first | (refine Hd.yv (y_pickT rfl rfl) ?_) | (refine Hd.yv (y_pickF rfl rfl) ?_) | (refine Hd.yv (y_pickb rfl rfl rfl) ?_) | (refine Hd.yv (y_pick rfl rfl rfl) ?_)
            refine Hd.nil ?_
            exact Hd.mend (by repeat (first | exact trivial | refine ⟨rfl, ?_⟩)) (Ent.sep enn)
          simp only [List.drop]
          refine Hd.yv (y_assign rfl) ?_
          refine Hd.nil ?_
          refine Hd.slots [(0, _), (3, _), (4, _), (5, _), (6, _), (15, _), (16, _), (17, _), (19, _), (20, _)] ⟨rfl, rfl, rfl, rfl, rfl, rfl, rfl, rfl, rfl, rfl, trivial⟩ ?_
          refine Hd.toK hK33 ?_
          refine Hd.seq (fun K34 hK34 => ?_)
          refine Hd.seq (fun K35 hK35 => ?_)
          refine Hd.region ?_
          refine Hd.yv (y_move rfl) ?_
          refine Hd.yv (y_move rfl) ?_
          apply Hd.andg 10 243 253 [(0, _), (3, _), (4, _), (5, _), (6, _), (15, _), (16, _), (17, _), (19, _), (20, _)] rfl ⟨rfl, rfl, rfl, rfl, rfl, rfl, rfl, rfl, rfl, rfl, trivial⟩
          · intro hg38_243
            try simp only [decide_eq_true_eq, decide_eq_false_iff_not, Bool.and_eq_true, Bool.or_eq_true, Bool.and_eq_false_iff, Bool.or_eq_false_iff, Bool.not_eq_true', Bool.not_eq_false', Bool.not_eq_true, Bool.not_eq_false, Int.not_lt, Int.not_le, Decidable.not_not, ne_eq] at hg38_243
            simp only [List.take]
            refine Hd.yg rfl rfl (y_move rfl) ?_
            refine Hd.yg rfl rfl (y_nilp rfl) ?_
            first | (refine Hd.yg rfl rfl (y_field' (q := 0) (ft := 56) Try.underlying58 rfl sz56 rfl rfl) ?_) | (refine Hd.yg rfl rfl (y_fieldR (q := 0) (ft := 56) Try.underlying58 rfl sz56 rfl rfl) ?_)
            first | (refine Hd.yg rfl rfl (y_load1 ag56 rfl (Rd.pt1 pkk (by (first | rfl)))) ?_) | (refine Hd.yg rfl rfl (y_load1 ag56 rfl (Rd.seg1 pkk (by (first | rfl)))) ?_) | (refine Hd.yg rfl rfl (y_loadR1 ag56 rfl (by (first | exact RdS.own pkk | exact RdS.mono hR (Ent.sep enn))) (by (first | rfl))) ?_)
            refine Hd.yg rfl rfl (y_move rfl) ?_
            have hk1 := hky (by omega)
            refine Hd.yg rfl rfl (y_idxR (j := k) Try.underlying56 sz61 rfl (by exact congrArg (fun z => some (Value.int .i64 z)) hk1.1) hk1.2.1 (RdS.own (ad := r2.1) (us := l2.flatMap encT) pkk)) ?_
            first | (refine Hd.yg rfl rfl (y_field' (q := 3) (ft := 23) Try.underlying61 rfl sz23 rfl rfl) ?_) | (refine Hd.yg rfl rfl (y_fieldR (q := 3) (ft := 23) Try.underlying61 rfl sz23 rfl rfl) ?_)
            refine Hd.yg rfl rfl (y_loadR1 ag23 rfl (RdS.own (ad := r2.1) (us := l2.flatMap encT) pkk) (flat_cells encT 5 (fun _ => rfl) hk1.2.2 3 _ rfl)) ?_
            first | (refine Hd.yg rfl rfl (y_eqlT rfl rfl) ?_) | (refine Hd.yg rfl rfl (y_eql rfl rfl) ?_)
            first | (refine Hd.yv (y_pickT rfl rfl) ?_) | (refine Hd.yv (y_pickF rfl rfl) ?_) | (refine Hd.yv (y_pickb rfl rfl rfl) ?_) | (refine Hd.yv (y_pick rfl rfl rfl) ?_)
            refine Hd.nil ?_
            exact Hd.mend (by repeat (first | exact trivial | refine ⟨rfl, ?_⟩)) (Ent.sep enn)
          · intro hg38_243
            try simp only [decide_eq_true_eq, decide_eq_false_iff_not, Bool.and_eq_true, Bool.or_eq_true, Bool.and_eq_false_iff, Bool.or_eq_false_iff, Bool.not_eq_true', Bool.not_eq_false', Bool.not_eq_true, Bool.not_eq_false, Int.not_lt, Int.not_le, Decidable.not_not, ne_eq] at hg38_243
            simp only [List.take]
            refine Hd.ng rfl rfl rfl ?_
            refine Hd.ng rfl rfl rfl ?_
            refine Hd.ng rfl rfl rfl ?_
            refine Hd.ng rfl rfl rfl ?_
            refine Hd.ng rfl rfl rfl ?_
            refine Hd.ng rfl rfl rfl ?_
            refine Hd.ng rfl rfl rfl ?_
            refine Hd.ng rfl rfl rfl ?_
            refine Hd.ng rfl rfl rfl ?_
            first | (refine Hd.yv (y_pickT rfl rfl) ?_) | (refine Hd.yv (y_pickF rfl rfl) ?_) | (refine Hd.yv (y_pickb rfl rfl rfl) ?_) | (refine Hd.yv (y_pick rfl rfl rfl) ?_)
            refine Hd.nil ?_
            exact Hd.mend (by repeat (first | exact trivial | refine ⟨rfl, ?_⟩)) (Ent.sep enn)
          simp only [List.drop]
          refine Hd.nil ?_
          refine Hd.slots [(0, _), (3, _), (4, _), (5, _), (6, _), (15, _), (16, _), (17, _), (19, _), (20, _), (253, _)] ⟨rfl, rfl, rfl, rfl, rfl, rfl, rfl, rfl, rfl, rfl, rfl, trivial⟩ ?_
          refine Hd.toK hK35 ?_
          refine Hd.cond rfl (fun hc10 => ?_) (fun hc10 => ?_)
          ·
            try simp only [decide_eq_true_eq, decide_eq_false_iff_not, Bool.and_eq_true, Bool.or_eq_true, Bool.and_eq_false_iff, Bool.or_eq_false_iff, Bool.not_eq_true', Bool.not_eq_false', Bool.not_eq_true, Bool.not_eq_false, Int.not_lt, Int.not_le, Decidable.not_not, ne_eq] at hc10
            have hk1 := hky (by omega)
            refine Hd.region ?_
            refine Hd.yv (y_move rfl) ?_
            refine Hd.yv (y_nilp rfl) ?_
            first | (refine Hd.yv (y_field' (q := 0) (ft := 56) Try.underlying58 rfl sz56 rfl rfl) ?_) | (refine Hd.yv (y_fieldR (q := 0) (ft := 56) Try.underlying58 rfl sz56 rfl rfl) ?_)
            first | (refine Hd.yv (y_load1 ag56 rfl (Rd.pt1 pkk (by (first | rfl)))) ?_) | (refine Hd.yv (y_load1 ag56 rfl (Rd.seg1 pkk (by (first | rfl)))) ?_) | (refine Hd.yv (y_loadR1 ag56 rfl (by (first | exact RdS.own pkk | exact RdS.mono hR (Ent.sep enn))) (by (first | rfl))) ?_)
            refine Hd.yv (y_move rfl) ?_
            refine Hd.yv (y_idxR (j := k) Try.underlying56 sz61 rfl (by exact congrArg (fun z => some (Value.int .i64 z)) hk1.1) hk1.2.1 (RdS.own (ad := r2.1) (us := l2.flatMap encT) pkk)) ?_
            first | (refine Hd.yv (y_field' (q := 3) (ft := 23) Try.underlying61 rfl sz23 rfl rfl) ?_) | (refine Hd.yv (y_fieldR (q := 3) (ft := 23) Try.underlying61 rfl sz23 rfl rfl) ?_)
            refine Hd.yv (y_loadR1 ag23 rfl (RdS.own (ad := r2.1) (us := l2.flatMap encT) pkk) (flat_cells encT 5 (fun _ => rfl) hk1.2.2 3 _ rfl)) ?_
            refine Hd.yv (y_assign rfl) ?_
            refine Hd.nil ?_
            refine Hd.slots [(0, _), (3, _), (4, _), (5, _), (6, _), (15, _), (16, _), (17, _), (19, _), (20, _)] ⟨rfl, rfl, rfl, rfl, rfl, rfl, rfl, rfl, rfl, rfl, trivial⟩ ?_
            refine Hd.toK hK34 ?_
            refine Hd.seq (fun K36 hK36 => ?_)
            refine Hd.seq (fun K37 hK37 => ?_)
            refine Hd.quiet mixed (by kernel_rfl) ?_
            refine Hq.yv (y_move rfl) ?_
            refine Hq.yv (y_move rfl) ?_
            apply Hq.andg 10 263 273 [(0, _), (3, _), (4, _), (5, _), (6, _), (15, _), (16, _), (17, _), (19, _), (20, _)] rfl ⟨rfl, rfl, rfl, rfl, rfl, rfl, rfl, rfl, rfl, rfl, trivial⟩
            · intro hg40_263
              try simp only [decide_eq_true_eq, decide_eq_false_iff_not, Bool.and_eq_true, Bool.or_eq_true, Bool.and_eq_false_iff, Bool.or_eq_false_iff, Bool.not_eq_true', Bool.not_eq_false', Bool.not_eq_true, Bool.not_eq_false, Int.not_lt, Int.not_le, Decidable.not_not, ne_eq] at hg40_263
              simp only [List.take]
              refine Hq.yg rfl rfl (y_move rfl) ?_
              refine Hq.yg rfl rfl (y_nilp rfl) ?_
              first | (refine Hq.yg rfl rfl (y_field' (q := 0) (ft := 56) Try.underlying58 rfl sz56 rfl rfl) ?_) | (refine Hq.yg rfl rfl (y_fieldR (q := 0) (ft := 56) Try.underlying58 rfl sz56 rfl rfl) ?_)
              first | (refine Hq.yg rfl rfl (y_load1 ag56 rfl (Rd.pt1 pkk (by (first | rfl)))) ?_) | (refine Hq.yg rfl rfl (y_load1 ag56 rfl (Rd.seg1 pkk (by (first | rfl)))) ?_) | (refine Hq.yg rfl rfl (y_loadR1 ag56 rfl (by (first | exact RdS.own pkk | exact RdS.mono hR (Ent.sep enn))) (by (first | rfl))) ?_)
              refine Hq.yg rfl rfl (y_move rfl) ?_
              have hk1 := hky (by omega)
              refine Hq.yg rfl rfl (y_idxR (j := k) Try.underlying56 sz61 rfl (by exact congrArg (fun z => some (Value.int .i64 z)) hk1.1) hk1.2.1 (RdS.own (ad := r2.1) (us := l2.flatMap encT) pkk)) ?_
              first | (refine Hq.yg rfl rfl (y_field' (q := 3) (ft := 23) Try.underlying61 rfl sz23 rfl rfl) ?_) | (refine Hq.yg rfl rfl (y_fieldR (q := 3) (ft := 23) Try.underlying61 rfl sz23 rfl rfl) ?_)
              refine Hq.yg rfl rfl (y_loadR1 ag23 rfl (RdS.own (ad := r2.1) (us := l2.flatMap encT) pkk) (flat_cells encT 5 (fun _ => rfl) hk1.2.2 3 _ rfl)) ?_
              refine Hq.yg rfl rfl (y_neq rfl rfl) ?_
              first | (refine Hq.yv (y_pickT rfl rfl) ?_) | (refine Hq.yv (y_pickF rfl rfl) ?_) | (refine Hq.yv (y_pickb rfl rfl rfl) ?_) | (refine Hq.yv (y_pick rfl rfl rfl) ?_)
              exact Hq.mend (by repeat (first | exact trivial | refine ⟨rfl, ?_⟩))
            · intro hg40_263
              try simp only [decide_eq_true_eq, decide_eq_false_iff_not, Bool.and_eq_true, Bool.or_eq_true, Bool.and_eq_false_iff, Bool.or_eq_false_iff, Bool.not_eq_true', Bool.not_eq_false', Bool.not_eq_true, Bool.not_eq_false, Int.not_lt, Int.not_le, Decidable.not_not, ne_eq] at hg40_263
              simp only [List.take]
              refine Hq.ng rfl rfl rfl ?_
              refine Hq.ng rfl rfl rfl ?_
              refine Hq.ng rfl rfl rfl ?_
              refine Hq.ng rfl rfl rfl ?_
              refine Hq.ng rfl rfl rfl ?_
              refine Hq.ng rfl rfl rfl ?_
              refine Hq.ng rfl rfl rfl ?_
              refine Hq.ng rfl rfl rfl ?_
              refine Hq.ng rfl rfl rfl ?_
              first | (refine Hq.yv (y_pickT rfl rfl) ?_) | (refine Hq.yv (y_pickF rfl rfl) ?_) | (refine Hq.yv (y_pickb rfl rfl rfl) ?_) | (refine Hq.yv (y_pick rfl rfl rfl) ?_)
              exact Hq.mend (by repeat (first | exact trivial | refine ⟨rfl, ?_⟩))
            simp only [List.drop]
            refine Hq.yv (y_move rfl) ?_
            apply Hq.andg 12 274 286 [(0, _), (3, _), (4, _), (5, _), (6, _), (15, _), (16, _), (17, _), (19, _), (20, _)] rfl ⟨rfl, rfl, rfl, rfl, rfl, rfl, rfl, rfl, rfl, rfl, trivial⟩
            · intro hg40_274
              try simp only [decide_eq_true_eq, decide_eq_false_iff_not, Bool.and_eq_true, Bool.or_eq_true, Bool.and_eq_false_iff, Bool.or_eq_false_iff, Bool.not_eq_true', Bool.not_eq_false', Bool.not_eq_true, Bool.not_eq_false, Int.not_lt, Int.not_le, Decidable.not_not, ne_eq] at hg40_274
              simp only [List.take]
              refine Hq.yg rfl rfl (y_move rfl) ?_
              refine Hq.yg rfl rfl (y_nilp rfl) ?_
              first | (refine Hq.yg rfl rfl (y_field' (q := 0) (ft := 56) Try.underlying58 rfl sz56 rfl rfl) ?_) | (refine Hq.yg rfl rfl (y_fieldR (q := 0) (ft := 56) Try.underlying58 rfl sz56 rfl rfl) ?_)
              first | (refine Hq.yg rfl rfl (y_load1 ag56 rfl (Rd.pt1 pkk (by (first | rfl)))) ?_) | (refine Hq.yg rfl rfl (y_load1 ag56 rfl (Rd.seg1 pkk (by (first | rfl)))) ?_) | (refine Hq.yg rfl rfl (y_loadR1 ag56 rfl (by (first | exact RdS.own pkk | exact RdS.mono hR (Ent.sep enn))) (by (first | rfl))) ?_)
              refine Hq.yg rfl rfl (y_move rfl) ?_
              have hk1 := hky (by omega)
              refine Hq.yg rfl rfl (y_idxR (j := k) Try.underlying56 sz61 rfl (by exact congrArg (fun z => some (Value.int .i64 z)) hk1.1) hk1.2.1 (RdS.own (ad := r2.1) (us := l2.flatMap encT) pkk)) ?_
              first | (refine Hq.yg rfl rfl (y_field' (q := 3) (ft := 23) Try.underlying61 rfl sz23 rfl rfl) ?_) | (refine Hq.yg rfl rfl (y_fieldR (q := 3) (ft := 23) Try.underlying61 rfl sz23 rfl rfl) ?_)
              refine Hq.yg rfl rfl (y_loadR1 ag23 rfl (RdS.own (ad := r2.1) (us := l2.flatMap encT) pkk) (flat_cells encT 5 (fun _ => rfl) hk1.2.2 3 _ rfl)) ?_
              first | (refine Hq.yg rfl rfl (y_field' (q := 2) (ft := 23) Try.underlying41 rfl sz23 rfl rfl) ?_) | (refine Hq.yg rfl rfl (y_fieldR (q := 2) (ft := 23) Try.underlying41 rfl sz23 rfl rfl) ?_)
              first | (refine Hq.yg rfl rfl (y_load1 ag23 rfl (Rd.pt1 pkk (by (first | rfl)))) ?_) | (refine Hq.yg rfl rfl (y_load1 ag23 rfl (Rd.seg1 pkk (by (first | rfl)))) ?_) | (refine Hq.yg rfl rfl (y_loadR1 ag23 rfl (by (first | exact RdS.own pkk | exact RdS.mono hR (Ent.sep enn))) (by (first | rfl))) ?_)
              refine Hq.yg rfl rfl (y_gtr rfl rfl) ?_
              first | (refine Hq.yv (y_pickT rfl rfl) ?_) | (refine Hq.yv (y_pickF rfl rfl) ?_) | (refine Hq.yv (y_pickb rfl rfl rfl) ?_) | (refine Hq.yv (y_pick rfl rfl rfl) ?_)
              exact Hq.mend (by repeat (first | exact trivial | refine ⟨rfl, ?_⟩))
            · intro hg40_274
              try simp only [decide_eq_true_eq, decide_eq_false_iff_not, Bool.and_eq_true, Bool.or_eq_true, Bool.and_eq_false_iff, Bool.or_eq_false_iff, Bool.not_eq_true', Bool.not_eq_false', Bool.not_eq_true, Bool.not_eq_false, Int.not_lt, Int.not_le, Decidable.not_not, ne_eq] at hg40_274
              simp only [List.take]
              refine Hq.ng rfl rfl rfl ?_
              refine Hq.ng rfl rfl rfl ?_
              refine Hq.ng rfl rfl rfl ?_
              refine Hq.ng rfl rfl rfl ?_
              refine Hq.ng rfl rfl rfl ?_
              refine Hq.ng rfl rfl rfl ?_
              refine Hq.ng rfl rfl rfl ?_
              refine Hq.ng rfl rfl rfl ?_
              refine Hq.ng rfl rfl rfl ?_
              refine Hq.ng rfl rfl rfl ?_
              refine Hq.ng rfl rfl rfl ?_
              first | (refine Hq.yv (y_pickT rfl rfl) ?_) | (refine Hq.yv (y_pickF rfl rfl) ?_) | (refine Hq.yv (y_pickb rfl rfl rfl) ?_) | (refine Hq.yv (y_pick rfl rfl rfl) ?_)
              exact Hq.mend (by repeat (first | exact trivial | refine ⟨rfl, ?_⟩))
            simp only [List.drop]
            refine Hq.nil ?_
            refine Hd.slots [(0, _), (3, _), (4, _), (5, _), (6, _), (15, _), (16, _), (17, _), (19, _), (20, _), (286, _)] ⟨rfl, rfl, rfl, rfl, rfl, rfl, rfl, rfl, rfl, rfl, rfl, trivial⟩ ?_
            refine Hd.toK hK37 ?_
            refine Hd.cond rfl (fun hc11 => ?_) (fun hc11 => ?_)
            ·
              try simp only [decide_eq_true_eq, decide_eq_false_iff_not, Bool.and_eq_true, Bool.or_eq_true, Bool.and_eq_false_iff, Bool.or_eq_false_iff, Bool.not_eq_true', Bool.not_eq_false', Bool.not_eq_true, Bool.not_eq_false, Int.not_lt, Int.not_le, Decidable.not_not, ne_eq] at hc11
              have hk1 := hky (by omega)
              have hyb : InK .u64 y.at_ := hat2 _ (hr2.rel.perm.mem_iff.1 (pend_mem.2 ⟨y, List.mem_of_getElem? hk1.2.2, (by obtain ⟨⟨⟨_, h⟩, _⟩, _⟩ := hc11; exact h), rfl⟩))
              have hxb := hok.1
              simp only [InK] at hyb hxb
              refine Hd.quiet mixed (by kernel_rfl) ?_
              refine Hq.yv (y_move rfl) ?_
              refine Hq.yv (y_nilp rfl) ?_
              first | (refine Hq.yv (y_field' (q := 0) (ft := 56) Try.underlying58 rfl sz56 rfl rfl) ?_) | (refine Hq.yv (y_fieldR (q := 0) (ft := 56) Try.underlying58 rfl sz56 rfl rfl) ?_)
              first | (refine Hq.yv (y_load1 ag56 rfl (Rd.pt1 pkk (by (first | rfl)))) ?_) | (refine Hq.yv (y_load1 ag56 rfl (Rd.seg1 pkk (by (first | rfl)))) ?_) | (refine Hq.yv (y_loadR1 ag56 rfl (by (first | exact RdS.own pkk | exact RdS.mono hR (Ent.sep enn))) (by (first | rfl))) ?_)
              refine Hq.yv (y_move rfl) ?_
              refine Hq.yv (y_idxR (j := k) Try.underlying56 sz61 rfl (by exact congrArg (fun z => some (Value.int .i64 z)) hk1.1) hk1.2.1 (RdS.own (ad := r2.1) (us := l2.flatMap encT) pkk)) ?_
              first | (refine Hq.yv (y_field' (q := 3) (ft := 23) Try.underlying61 rfl sz23 rfl rfl) ?_) | (refine Hq.yv (y_fieldR (q := 3) (ft := 23) Try.underlying61 rfl sz23 rfl rfl) ?_)
              refine Hq.yv (y_loadR1 ag23 rfl (RdS.own (ad := r2.1) (us := l2.flatMap encT) pkk) (flat_cells encT 5 (fun _ => rfl) hk1.2.2 3 _ rfl)) ?_
              first | (refine Hq.yv (y_field' (q := 2) (ft := 23) Try.underlying41 rfl sz23 rfl rfl) ?_) | (refine Hq.yv (y_fieldR (q := 2) (ft := 23) Try.underlying41 rfl sz23 rfl rfl) ?_)
              first | (refine Hq.yv (y_load1 ag23 rfl (Rd.pt1 pkk (by (first | rfl)))) ?_) | (refine Hq.yv (y_load1 ag23 rfl (Rd.seg1 pkk (by (first | rfl)))) ?_) | (refine Hq.yv (y_loadR1 ag23 rfl (by (first | exact RdS.own pkk | exact RdS.mono hR (Ent.sep enn))) (by (first | rfl))) ?_)
              first | (refine Hq.yv (y_subn rfl rfl (by simp only [InK]; omega)) ?_) | (refine Hq.yv (y_sub rfl rfl) ?_)
              refine Hq.yv (y_assign rfl) ?_
              refine Hq.nil ?_
              refine Hd.slots [(0, _), (3, _), (4, _), (5, _), (15, _), (16, _), (19, _), (20, _)] ⟨rfl, rfl, rfl, rfl, rfl, rfl, rfl, rfl, trivial⟩ ?_
              refine Hd.toK hK36 ?_
              refine Hd.seq (fun K38 hK38 => ?_)
              refine Hd.region ?_
              refine Hd.yv (y_move rfl) ?_
              refine Hd.yv (y_move rfl) ?_
              refine Hd.yv (y_to (v' := .bool false) (y_neqb Try.underlying4 rfl rfl) (by (rw [hleft]; cases hz : (decide (v ≥ 0) && y.pn) <;> simp [hz]))) ?_
              refine Hd.yv (y_move rfl) ?_
              refine Hd.yg rfl rfl (y_move rfl) ?_
              refine Hd.yg rfl rfl (y_move rfl) ?_
              refine Hd.yg rfl rfl (y_to (v' := .bool false) (y_neq rfl rfl) (by (rw [hleft, lv_eq rfl]; refine congrArg Value.bool (decide_eq_false fun h => h ?_); clear hK1 hK2 hleft hafv his hcn hcf hcf2 hF hF2 hat hat2 hR hO hr2 hky hf2 haf; split <;> (try split) <;> (try split) <;> first | omega | (simp_all <;> omega)))) ?_
              first | (refine Hd.yv (y_pickT rfl rfl) ?_) | (refine Hd.yv (y_pickF rfl rfl) ?_) | (refine Hd.yv (y_pickb rfl rfl rfl) ?_) | (refine Hd.yv (y_pick rfl rfl rfl) ?_)
              refine Hd.nil ?_
              refine Hd.slots [(0, _), (3, _), (4, _), (5, _), (305, _)] ⟨rfl, rfl, rfl, rfl, rfl, trivial⟩ ?_
              refine Hd.toK hK38 ?_
              refine Hd.condF rfl ?_
              refine Hd.skip ?_
              refine Hd.inB ?_
              refine Hd.toK hK11 ?_
              refine Hd.region ?_
              refine Hd.yv (y_move rfl) ?_
              first | (refine Hd.yv (y_addn rfl rfl (by simp only [InK]; omega)) ?_) | (refine Hd.yv (y_add rfl rfl) ?_)
              refine Hd.yv (y_assign rfl) ?_
              refine Hd.nil ?_
              refine Hd.slots [(0, _), (3, _), (4, _), (5, _)] ⟨rfl, rfl, rfl, rfl, trivial⟩ ?_
              clear hK1 hK2 hK3 hK5 hK6 hK7 hK8 hK9 hK10 hK11 hK12 hK13 hK25 hK26 hK27 hK28 hK29 hK30 hK32 hK33 hK34 hK35 hK36 hK37 hK38
              refine Hd.thenN ?_
              refine Hd.heap (TmA b qt s2 n2 f2 m2 :: TrA b2 s2 n2 f2 m2 :: L) (Ent.sep (.pick pkk (.ex (r2, l2) (.pure hr2 enn)))) ?_
              exact Hd.again (i + 1, qt, s2, n2, f2, m2) (by first | omega | (simp only; omega) | (simp; omega)) (by repeat (first | exact trivial | refine ⟨rfl, ?_⟩)) (Ent.sep (.pure ⟨hi, by show s2.length ≤ i + 1; omega, by show n2 ≤ ((i + 1 : Nat) : Int); omega, hf2, hm2⟩ enn))
            ·
              try simp only [decide_eq_true_eq, decide_eq_false_iff_not, Bool.and_eq_true, Bool.or_eq_true, Bool.and_eq_false_iff, Bool.or_eq_false_iff, Bool.not_eq_true', Bool.not_eq_false', Bool.not_eq_true, Bool.not_eq_false, Int.not_lt, Int.not_le, Decidable.not_not, ne_eq] at hc11
              refine Hd.skip ?_
              refine Hd.toK hK36 ?_
              refine Hd.seq (fun K39 hK39 => ?_)
              refine Hd.region ?_
              refine Hd.yv (y_move rfl) ?_
              refine Hd.yv (y_move rfl) ?_
              refine Hd.yv (y_to (v' := .bool false) (y_neqb Try.underlying4 rfl rfl) (by (rw [hleft]; cases hz : (decide (v ≥ 0) && y.pn) <;> simp [hz]))) ?_
              refine Hd.yv (y_move rfl) ?_
              refine Hd.yg rfl rfl (y_move rfl) ?_
              refine Hd.yg rfl rfl (y_move rfl) ?_
              refine Hd.yg rfl rfl (y_to (v' := .bool false) (y_neq rfl rfl) (by (rw [hleft, lv_eq rfl]; refine congrArg Value.bool (decide_eq_false fun h => h ?_); clear hK1 hK2 hleft hafv his hcn hcf hcf2 hF hF2 hat hat2 hR hO hr2 hky hf2 haf; split <;> (try split) <;> (try split) <;> first | omega | (simp_all <;> omega)))) ?_
              first | (refine Hd.yv (y_pickT rfl rfl) ?_) | (refine Hd.yv (y_pickF rfl rfl) ?_) | (refine Hd.yv (y_pickb rfl rfl rfl) ?_) | (refine Hd.yv (y_pick rfl rfl rfl) ?_)
              refine Hd.nil ?_
              refine Hd.slots [(0, _), (3, _), (4, _), (5, _), (305, _)] ⟨rfl, rfl, rfl, rfl, rfl, trivial⟩ ?_
              refine Hd.toK hK39 ?_
              refine Hd.condF rfl ?_
              refine Hd.skip ?_
              refine Hd.inB ?_
              refine Hd.toK hK11 ?_
              refine Hd.region ?_
              refine Hd.yv (y_move rfl) ?_
              first | (refine Hd.yv (y_addn rfl rfl (by simp only [InK]; omega)) ?_) | (refine Hd.yv (y_add rfl rfl) ?_)
              refine Hd.yv (y_assign rfl) ?_
              refine Hd.nil ?_
              refine Hd.slots [(0, _), (3, _), (4, _), (5, _)] ⟨rfl, rfl, rfl, rfl, trivial⟩ ?_
              clear hK1 hK2 hK3 hK5 hK6 hK7 hK8 hK9 hK10 hK11 hK12 hK13 hK25 hK26 hK27 hK28 hK29 hK30 hK32 hK33 hK34 hK35 hK36 hK37 hK39
              refine Hd.thenN ?_
              refine Hd.heap (TmA b qt s2 n2 f2 m2 :: TrA b2 s2 n2 f2 m2 :: L) (Ent.sep (.pick pkk (.ex (r2, l2) (.pure hr2 enn)))) ?_
              exact Hd.again (i + 1, qt, s2, n2, f2, m2) (by first | omega | (simp only; omega) | (simp; omega)) (by repeat (first | exact trivial | refine ⟨rfl, ?_⟩)) (Ent.sep (.pure ⟨hi, by show s2.length ≤ i + 1; omega, by show n2 ≤ ((i + 1 : Nat) : Int); omega, hf2, hm2⟩ enn))
          ·
            try simp only [decide_eq_true_eq, decide_eq_false_iff_not, Bool.and_eq_true, Bool.or_eq_true, Bool.and_eq_false_iff, Bool.or_eq_false_iff, Bool.not_eq_true', Bool.not_eq_false', Bool.not_eq_true, Bool.not_eq_false, Int.not_lt, Int.not_le, Decidable.not_not, ne_eq] at hc10
            refine Hd.skip ?_
            refine Hd.toK hK34 ?_
            refine Hd.seq (fun K40 hK40 => ?_)
            refine Hd.seq (fun K41 hK41 => ?_)
            refine Hd.quiet mixed (by kernel_rfl) ?_
            refine Hq.yv (y_move rfl) ?_
            refine Hq.yv (y_move rfl) ?_
            apply Hq.andg 10 263 273 [(0, _), (3, _), (4, _), (5, _), (6, _), (15, _), (16, _), (17, _), (19, _), (20, _)] rfl ⟨rfl, rfl, rfl, rfl, rfl, rfl, rfl, rfl, rfl, rfl, trivial⟩
            · intro hg40_263
              try simp only [decide_eq_true_eq, decide_eq_false_iff_not, Bool.and_eq_true, Bool.or_eq_true, Bool.and_eq_false_iff, Bool.or_eq_false_iff, Bool.not_eq_true', Bool.not_eq_false', Bool.not_eq_true, Bool.not_eq_false, Int.not_lt, Int.not_le, Decidable.not_not, ne_eq] at hg40_263
              simp only [List.take]
              refine Hq.yg rfl rfl (y_move rfl) ?_
              refine Hq.yg rfl rfl (y_nilp rfl) ?_
              first | (refine Hq.yg rfl rfl (y_field' (q := 0) (ft := 56) Try.underlying58 rfl sz56 rfl rfl) ?_) | (refine Hq.yg rfl rfl (y_fieldR (q := 0) (ft := 56) Try.underlying58 rfl sz56 rfl rfl) ?_)
              first | (refine Hq.yg rfl rfl (y_load1 ag56 rfl (Rd.pt1 pkk (by (first | rfl)))) ?_) | (refine Hq.yg rfl rfl (y_load1 ag56 rfl (Rd.seg1 pkk (by (first | rfl)))) ?_) | (refine Hq.yg rfl rfl (y_loadR1 ag56 rfl (by (first | exact RdS.own pkk | exact RdS.mono hR (Ent.sep enn))) (by (first | rfl))) ?_)
              refine Hq.yg rfl rfl (y_move rfl) ?_
              have hk1 := hky (by omega)
              refine Hq.yg rfl rfl (y_idxR (j := k) Try.underlying56 sz61 rfl (by exact congrArg (fun z => some (Value.int .i64 z)) hk1.1) hk1.2.1 (RdS.own (ad := r2.1) (us := l2.flatMap encT) pkk)) ?_
              first | (refine Hq.yg rfl rfl (y_field' (q := 3) (ft := 23) Try.underlying61 rfl sz23 rfl rfl) ?_) | (refine Hq.yg rfl rfl (y_fieldR (q := 3) (ft := 23) Try.underlying61 rfl sz23 rfl rfl) ?_)
              refine Hq.yg rfl rfl (y_loadR1 ag23 rfl (RdS.own (ad := r2.1) (us := l2.flatMap encT) pkk) (flat_cells encT 5 (fun _ => rfl) hk1.2.2 3 _ rfl)) ?_
              refine Hq.yg rfl rfl (y_neq rfl rfl) ?_
              first | (refine Hq.yv (y_pickT rfl rfl) ?_) | (refine Hq.yv (y_pickF rfl rfl) ?_) | (refine Hq.yv (y_pickb rfl rfl rfl) ?_) | (refine Hq.yv (y_pick rfl rfl rfl) ?_)
              exact Hq.mend (by repeat (first | exact trivial | refine ⟨rfl, ?_⟩))
            · intro hg40_263
              try simp only [decide_eq_true_eq, decide_eq_false_iff_not, Bool.and_eq_true, Bool.or_eq_true, Bool.and_eq_false_iff, Bool.or_eq_false_iff, Bool.not_eq_true', Bool.not_eq_false', Bool.not_eq_true, Bool.not_eq_false, Int.not_lt, Int.not_le, Decidable.not_not, ne_eq] at hg40_263
              simp only [List.take]
              refine Hq.ng rfl rfl rfl ?_
              refine Hq.ng rfl rfl rfl ?_
              refine Hq.ng rfl rfl rfl ?_
              refine Hq.ng rfl rfl rfl ?_
              refine Hq.ng rfl rfl rfl ?_
              refine Hq.ng rfl rfl rfl ?_
              refine Hq.ng rfl rfl rfl ?_
              refine Hq.ng rfl rfl rfl ?_
              refine Hq.ng rfl rfl rfl ?_
              first | (refine Hq.yv (y_pickT rfl rfl) ?_) | (refine Hq.yv (y_pickF rfl rfl) ?_) | (refine Hq.yv (y_pickb rfl rfl rfl) ?_) | (refine Hq.yv (y_pick rfl rfl rfl) ?_)
              exact Hq.mend (by repeat (first | exact trivial | refine ⟨rfl, ?_⟩))
            simp only [List.drop]
            refine Hq.yv (y_move rfl) ?_
            apply Hq.andg 12 274 286 [(0, _), (3, _), (4, _), (5, _), (6, _), (15, _), (16, _), (17, _), (19, _), (20, _)] rfl ⟨rfl, rfl, rfl, rfl, rfl, rfl, rfl, rfl, rfl, rfl, trivial⟩
            · intro hg40_274
              try simp only [decide_eq_true_eq, decide_eq_false_iff_not, Bool.and_eq_true, Bool.or_eq_true, Bool.and_eq_false_iff, Bool.or_eq_false_iff, Bool.not_eq_true', Bool.not_eq_false', Bool.not_eq_true, Bool.not_eq_false, Int.not_lt, Int.not_le, Decidable.not_not, ne_eq] at hg40_274
              simp only [List.take]
              refine Hq.yg rfl rfl (y_move rfl) ?_
              refine Hq.yg rfl rfl (y_nilp rfl) ?_
              first | (refine Hq.yg rfl rfl (y_field' (q := 0) (ft := 56) Try.underlying58 rfl sz56 rfl rfl) ?_) | (refine Hq.yg rfl rfl (y_fieldR (q := 0) (ft := 56) Try.underlying58 rfl sz56 rfl rfl) ?_)
              first | (refine Hq.yg rfl rfl (y_load1 ag56 rfl (Rd.pt1 pkk (by (first | rfl)))) ?_) | (refine Hq.yg rfl rfl (y_load1 ag56 rfl (Rd.seg1 pkk (by (first | rfl)))) ?_) | (refine Hq.yg rfl rfl (y_loadR1 ag56 rfl (by (first | exact RdS.own pkk | exact RdS.mono hR (Ent.sep enn))) (by (first | rfl))) ?_)
              refine Hq.yg rfl rfl (y_move rfl) ?_
              have hk1 := hky (by omega)
              refine Hq.yg rfl rfl (y_idxR (j := k) Try.underlying56 sz61 rfl (by exact congrArg (fun z => some (Value.int .i64 z)) hk1.1) hk1.2.1 (RdS.own (ad := r2.1) (us := l2.flatMap encT) pkk)) ?_
              first | (refine Hq.yg rfl rfl (y_field' (q := 3) (ft := 23) Try.underlying61 rfl sz23 rfl rfl) ?_) | (refine Hq.yg rfl rfl (y_fieldR (q := 3) (ft := 23) Try.underlying61 rfl sz23 rfl rfl) ?_)
              refine Hq.yg rfl rfl (y_loadR1 ag23 rfl (RdS.own (ad := r2.1) (us := l2.flatMap encT) pkk) (flat_cells encT 5 (fun _ => rfl) hk1.2.2 3 _ rfl)) ?_
              first | (refine Hq.yg rfl rfl (y_field' (q := 2) (ft := 23) Try.underlying41 rfl sz23 rfl rfl) ?_) | (refine Hq.yg rfl rfl (y_fieldR (q := 2) (ft := 23) Try.underlying41 rfl sz23 rfl rfl) ?_)
              first | (refine Hq.yg rfl rfl (y_load1 ag23 rfl (Rd.pt1 pkk (by (first | rfl)))) ?_) | (refine Hq.yg rfl rfl (y_load1 ag23 rfl (Rd.seg1 pkk (by (first | rfl)))) ?_) | (refine Hq.yg rfl rfl (y_loadR1 ag23 rfl (by (first | exact RdS.own pkk | exact RdS.mono hR (Ent.sep enn))) (by (first | rfl))) ?_)
              refine Hq.yg rfl rfl (y_gtr rfl rfl) ?_
              first | (refine Hq.yv (y_pickT rfl rfl) ?_) | (refine Hq.yv (y_pickF rfl rfl) ?_) | (refine Hq.yv (y_pickb rfl rfl rfl) ?_) | (refine Hq.yv (y_pick rfl rfl rfl) ?_)
              exact Hq.mend (by repeat (first | exact trivial | refine ⟨rfl, ?_⟩))
            · intro hg40_274
              try simp only [decide_eq_true_eq, decide_eq_false_iff_not, Bool.and_eq_true, Bool.or_eq_true, Bool.and_eq_false_iff, Bool.or_eq_false_iff, Bool.not_eq_true', Bool.not_eq_false', Bool.not_eq_true, Bool.not_eq_false, Int.not_lt, Int.not_le, Decidable.not_not, ne_eq] at hg40_274
              simp only [List.take]
              refine Hq.ng rfl rfl rfl ?_
              refine Hq.ng rfl rfl rfl ?_
              refine Hq.ng rfl rfl rfl ?_
              refine Hq.ng rfl rfl rfl ?_
              refine Hq.ng rfl rfl rfl ?_
              refine Hq.ng rfl rfl rfl ?_
              refine Hq.ng rfl rfl rfl ?_
              refine Hq.ng rfl rfl rfl ?_
              refine Hq.ng rfl rfl rfl ?_
              refine Hq.ng rfl rfl rfl ?_
              refine Hq.ng rfl rfl rfl ?_
              first | (refine Hq.yv (y_pickT rfl rfl) ?_) | (refine Hq.yv (y_pickF rfl rfl) ?_) | (refine Hq.yv (y_pickb rfl rfl rfl) ?_) | (refine Hq.yv (y_pick rfl rfl rfl) ?_)
              exact Hq.mend (by repeat (first | exact trivial | refine ⟨rfl, ?_⟩))
            simp only [List.drop]
            refine Hq.nil ?_
            refine Hd.slots [(0, _), (3, _), (4, _), (5, _), (6, _), (15, _), (16, _), (17, _), (19, _), (20, _), (286, _)] ⟨rfl, rfl, rfl, rfl, rfl, rfl, rfl, rfl, rfl, rfl, rfl, trivial⟩ ?_
            refine Hd.toK hK41 ?_
            refine Hd.cond rfl (fun hc11 => ?_) (fun hc11 => ?_)
            ·
              try simp only [decide_eq_true_eq, decide_eq_false_iff_not, Bool.and_eq_true, Bool.or_eq_true, Bool.and_eq_false_iff, Bool.or_eq_false_iff, Bool.not_eq_true', Bool.not_eq_false', Bool.not_eq_true, Bool.not_eq_false, Int.not_lt, Int.not_le, Decidable.not_not, ne_eq] at hc11
              have hk1 := hky (by omega)
              have hyb : InK .u64 y.at_ := hat2 _ (hr2.rel.perm.mem_iff.1 (pend_mem.2 ⟨y, List.mem_of_getElem? hk1.2.2, (by obtain ⟨⟨⟨_, h⟩, _⟩, _⟩ := hc11; exact h), rfl⟩))
              have hxb := hok.1
              simp only [InK] at hyb hxb
              refine Hd.quiet mixed (by kernel_rfl) ?_
              refine Hq.yv (y_move rfl) ?_
              refine Hq.yv (y_nilp rfl) ?_
              first | (refine Hq.yv (y_field' (q := 0) (ft := 56) Try.underlying58 rfl sz56 rfl rfl) ?_) | (refine Hq.yv (y_fieldR (q := 0) (ft := 56) Try.underlying58 rfl sz56 rfl rfl) ?_)
              first | (refine Hq.yv (y_load1 ag56 rfl (Rd.pt1 pkk (by (first | rfl)))) ?_) | (refine Hq.yv (y_load1 ag56 rfl (Rd.seg1 pkk (by (first | rfl)))) ?_) | (refine Hq.yv (y_loadR1 ag56 rfl (by (first | exact RdS.own pkk | exact RdS.mono hR (Ent.sep enn))) (by (first | rfl))) ?_)
              refine Hq.yv (y_move rfl) ?_
              refine Hq.yv (y_idxR (j := k) Try.underlying56 sz61 rfl (by exact congrArg (fun z => some (Value.int .i64 z)) hk1.1) hk1.2.1 (RdS.own (ad := r2.1) (us := l2.flatMap encT) pkk)) ?_
              first | (refine Hq.yv (y_field' (q := 3) (ft := 23) Try.underlying61 rfl sz23 rfl rfl) ?_) | (refine Hq.yv (y_fieldR (q := 3) (ft := 23) Try.underlying61 rfl sz23 rfl rfl) ?_)
              refine Hq.yv (y_loadR1 ag23 rfl (RdS.own (ad := r2.1) (us := l2.flatMap encT) pkk) (flat_cells encT 5 (fun _ => rfl) hk1.2.2 3 _ rfl)) ?_
              first | (refine Hq.yv (y_field' (q := 2) (ft := 23) Try.underlying41 rfl sz23 rfl rfl) ?_) | (refine Hq.yv (y_fieldR (q := 2) (ft := 23) Try.underlying41 rfl sz23 rfl rfl) ?_)
              first | (refine Hq.yv (y_load1 ag23 rfl (Rd.pt1 pkk (by (first | rfl)))) ?_) | (refine Hq.yv (y_load1 ag23 rfl (Rd.seg1 pkk (by (first | rfl)))) ?_) | (refine Hq.yv (y_loadR1 ag23 rfl (by (first | exact RdS.own pkk | exact RdS.mono hR (Ent.sep enn))) (by (first | rfl))) ?_)
              first | (refine Hq.yv (y_subn rfl rfl (by simp only [InK]; omega)) ?_) | (refine Hq.yv (y_sub rfl rfl) ?_)
              refine Hq.yv (y_assign rfl) ?_
              refine Hq.nil ?_
              refine Hd.slots [(0, _), (3, _), (4, _), (5, _), (15, _), (16, _), (19, _), (20, _)] ⟨rfl, rfl, rfl, rfl, rfl, rfl, rfl, rfl, trivial⟩ ?_
              refine Hd.toK hK40 ?_
              refine Hd.seq (fun K42 hK42 => ?_)
              refine Hd.region ?_
              refine Hd.yv (y_move rfl) ?_
              refine Hd.yv (y_move rfl) ?_
              refine Hd.yv (y_to (v' := .bool false) (y_neqb Try.underlying4 rfl rfl) (by (rw [hleft]; cases hz : (decide (v ≥ 0) && y.pn) <;> simp [hz]))) ?_
              refine Hd.yv (y_move rfl) ?_
              refine Hd.yg rfl rfl (y_move rfl) ?_
              refine Hd.yg rfl rfl (y_move rfl) ?_
              refine Hd.yg rfl rfl (y_to (v' := .bool false) (y_neq rfl rfl) (by (rw [hleft, lv_eq rfl]; refine congrArg Value.bool (decide_eq_false fun h => h ?_); clear hK1 hK2 hleft hafv his hcn hcf hcf2 hF hF2 hat hat2 hR hO hr2 hky hf2 haf; split <;> (try split) <;> (try split) <;> first | omega | (simp_all <;> omega)))) ?_
              first | (refine Hd.yv (y_pickT rfl rfl) ?_) | (refine Hd.yv (y_pickF rfl rfl) ?_) | (refine Hd.yv (y_pickb rfl rfl rfl) ?_) | (refine Hd.yv (y_pick rfl rfl rfl) ?_)
              refine Hd.nil ?_
              refine Hd.slots [(0, _), (3, _), (4, _), (5, _), (305, _)] ⟨rfl, rfl, rfl, rfl, rfl, trivial⟩ ?_
              refine Hd.toK hK42 ?_
              refine Hd.condF rfl ?_
              refine Hd.skip ?_
              refine Hd.inB ?_
              refine Hd.toK hK11 ?_
              refine Hd.region ?_
              refine Hd.yv (y_move rfl) ?_
              first | (refine Hd.yv (y_addn rfl rfl (by simp only [InK]; omega)) ?_) | (refine Hd.yv (y_add rfl rfl) ?_)
              refine Hd.yv (y_assign rfl) ?_
              refine Hd.nil ?_
              refine Hd.slots [(0, _), (3, _), (4, _), (5, _)] ⟨rfl, rfl, rfl, rfl, trivial⟩ ?_
              clear hK1 hK2 hK3 hK5 hK6 hK7 hK8 hK9 hK10 hK11 hK12 hK13 hK25 hK26 hK27 hK28 hK29 hK30 hK32 hK33 hK34 hK35 hK40 hK41 hK42
              refine Hd.thenN ?_
              refine Hd.heap (TmA b qt s2 n2 f2 m2 :: TrA b2 s2 n2 f2 m2 :: L) (Ent.sep (.pick pkk (.ex (r2, l2) (.pure hr2 enn)))) ?_
              exact Hd.again (i + 1, qt, s2, n2, f2, m2) (by first | omega | (simp only; omega) | (simp; omega)) (by repeat (first | exact trivial | refine ⟨rfl, ?_⟩)) (Ent.sep (.pure ⟨hi, by show s2.length ≤ i + 1; omega, by show n2 ≤ ((i + 1 : Nat) : Int); omega, hf2, hm2⟩ enn))
            ·
              try simp only [decide_eq_true_eq, decide_eq_false_iff_not, Bool.and_eq_true, Bool.or_eq_true, Bool.and_eq_false_iff, Bool.or_eq_false_iff, Bool.not_eq_true', Bool.not_eq_false', Bool.not_eq_true, Bool.not_eq_false, Int.not_lt, Int.not_le, Decidable.not_not, ne_eq] at hc11
              refine Hd.skip ?_
              refine Hd.toK hK40 ?_
              refine Hd.seq (fun K43 hK43 => ?_)
              refine Hd.region ?_
              refine Hd.yv (y_move rfl) ?_
              refine Hd.yv (y_move rfl) ?_
              refine Hd.yv (y_to (v' := .bool false) (y_neqb Try.underlying4 rfl rfl) (by (rw [hleft]; cases hz : (decide (v ≥ 0) && y.pn) <;> simp [hz]))) ?_
              refine Hd.yv (y_move rfl) ?_
              refine Hd.yg rfl rfl (y_move rfl) ?_
              refine Hd.yg rfl rfl (y_move rfl) ?_
              refine Hd.yg rfl rfl (y_to (v' := .bool false) (y_neq rfl rfl) (by (rw [hleft, lv_eq rfl]; refine congrArg Value.bool (decide_eq_false fun h => h ?_); clear hK1 hK2 hleft hafv his hcn hcf hcf2 hF hF2 hat hat2 hR hO hr2 hky hf2 haf; split <;> (try split) <;> (try split) <;> first | omega | (simp_all <;> omega)))) ?_
              first | (refine Hd.yv (y_pickT rfl rfl) ?_) | (refine Hd.yv (y_pickF rfl rfl) ?_) | (refine Hd.yv (y_pickb rfl rfl rfl) ?_) | (refine Hd.yv (y_pick rfl rfl rfl) ?_)
              refine Hd.nil ?_
              refine Hd.slots [(0, _), (3, _), (4, _), (5, _), (305, _)] ⟨rfl, rfl, rfl, rfl, rfl, trivial⟩ ?_
              refine Hd.toK hK43 ?_
              refine Hd.condF rfl ?_
              refine Hd.skip ?_
              refine Hd.inB ?_
              refine Hd.toK hK11 ?_
              refine Hd.region ?_
              refine Hd.yv (y_move rfl) ?_
              first | (refine Hd.yv (y_addn rfl rfl (by simp only [InK]; omega)) ?_) | (refine Hd.yv (y_add rfl rfl) ?_)
              refine Hd.yv (y_assign rfl) ?_
              refine Hd.nil ?_
              refine Hd.slots [(0, _), (3, _), (4, _), (5, _)] ⟨rfl, rfl, rfl, rfl, trivial⟩ ?_
              clear hK1 hK2 hK3 hK5 hK6 hK7 hK8 hK9 hK10 hK11 hK12 hK13 hK25 hK26 hK27 hK28 hK29 hK30 hK32 hK33 hK34 hK35 hK40 hK41 hK43
              refine Hd.thenN ?_
              refine Hd.heap (TmA b qt s2 n2 f2 m2 :: TrA b2 s2 n2 f2 m2 :: L) (Ent.sep (.pick pkk (.ex (r2, l2) (.pure hr2 enn)))) ?_
              exact Hd.again (i + 1, qt, s2, n2, f2, m2) (by first | omega | (simp only; omega) | (simp; omega)) (by repeat (first | exact trivial | refine ⟨rfl, ?_⟩)) (Ent.sep (.pure ⟨hi, by show s2.length ≤ i + 1; omega, by show n2 ≤ ((i + 1 : Nat) : Int); omega, hf2, hm2⟩ enn))
    ·
      try simp only [decide_eq_true_eq, decide_eq_false_iff_not, Bool.and_eq_true, Bool.or_eq_true, Bool.and_eq_false_iff, Bool.or_eq_false_iff, Bool.not_eq_true', Bool.not_eq_false', Bool.not_eq_true, Bool.not_eq_false, Int.not_lt, Int.not_le, Decidable.not_not, ne_eq] at hc1
      refine Hd.exit ?_
      refine Hd.thenExit ?_
      refine Hd.thenExit ?_
      refine Hd.inBexit ?_
      refine Hd.toK hK7 ?_
      refine Hd.seq (fun K44 hK44 => ?_)
      refine Hd.region ?_
      refine Hd.yv (y_assign rfl) ?_
      refine Hd.nil ?_
      refine Hd.slots [(2, _)] ⟨rfl, trivial⟩ ?_
      refine Hd.toK hK44 ?_
      refine Hd.ret ?_
      clear hK1 hK2 hK3 hK5 hK6 hK7 hK8 hK9 hK10 hK44
      exact Hd.ret1 rfl () (by first | rfl | (simp only [*]; done) | (simp [*]; done)) (Ent.sep enn)
end Tm
end Go.Proofs.Ytdjoofidicoimaa
