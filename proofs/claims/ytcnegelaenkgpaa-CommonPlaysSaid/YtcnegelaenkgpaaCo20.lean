/-
  The document's set of deadlines: All, Due.
-/
import Derived.Test.YtcnegelaenkgpaaCo19
namespace Go.Proofs.Ytcnegelaenkgpaa
set_option linter.unusedSimpArgs false
set_option linter.unusedVariables false
set_option linter.unnecessarySimpa false
open Go.RX Fx Hp
namespace Cm
set_option maxRecDepth 8000
theorem flatI_take (s : List It) (i : Nat) : (s.flatMap Hp.encI).take (i * 3) = (s.take i).flatMap Hp.encI := by
  induction s generalizing i with
  | nil => simp
  | cons v s ih =>
    cases i with
    | zero => simp
    | succ i => rw [show (i + 1) * 3 = i * 3 + 3 by omega]; simp [List.take_append, ih]
theorem flatI_drop (s : List It) (i : Nat) : (s.flatMap Hp.encI).drop (i * 3) = (s.drop i).flatMap Hp.encI := by
  induction s generalizing i with
  | nil => simp
  | cons v s ih =>
    cases i with
    | zero => simp
    | succ i => rw [show (i + 1) * 3 = i * 3 + 3 by omega]; simp [List.drop_append, ih]
theorem rd_take {L L' : List SP} {ad : Option Addr} {n cap i : Nat} {s : List It} (p : Pick L (OwI ad n cap s) L') (h : i ≤ n) : RdS L 3 ad i ((s.take i).flatMap Hp.encI) := by
  have := RdS.head (l := i) (RdS.own p) h
  rwa [flatI_take] at this
theorem rd_drop {L L' : List SP} {ad : Option Addr} {n cap i : Nat} {s : List It} (p : Pick L (OwI ad n cap s) L') (h : i ≤ n) (hc : n ≤ cap) : RdS L 3 (cutA ad 3 i cap) (n - i) ((s.drop i).flatMap Hp.encI) := by
  have := RdS.tail (l := i) (mx := cap) (RdS.own p) h hc
  rwa [flatI_drop] at this
theorem ins_at {x : It} : ∀ {s : List It} {i : Nat}, i ≤ s.length → (∀ j, j < i → ltI (g s j) x) → (i < s.length → ¬ ltI (g s i) x) → insI x s = s.take i ++ x :: s.drop i
  | [], i, h, _, _ => by simp at h; subst h; rfl
  | y :: r, 0, _, _, h => by
    have : ¬ ltI y x := h (by simp)
    unfold insI; rw [if_neg this]; rfl
  | y :: r, i + 1, h0, h1, h2 => by
    have hy : ltI y x := h1 0 (by omega)
    unfold insI; rw [if_pos hy, ins_at (i := i) (by simpa using h0) (fun j hj => h1 (j + 1) (by omega)) (fun q => h2 (by simpa using q))]
    rfl
theorem hpf_drop {s : List It} (hF : HpF s) (k : Nat) : HpF (s.drop k) :=
  ⟨hF.srt.sublist (List.drop_sublist k s), hF.nd.sublist (List.Sublist.map _ (List.drop_sublist k s)), by rw [List.length_drop]; have := hF.len; omega⟩
theorem drop_at {s : List It} {k : Nat} (h : k < s.length) : s.drop k = g s k :: s.drop (k + 1) := by
  have := g_at h
  rw [List.getElem?_eq_getElem h] at this
  rw [List.drop_eq_getElem_cons h, Option.some.inj this]
theorem rest_gt {now : Int} : ∀ {s : List It}, s.Pairwise ltI → ∀ y ∈ restI now s, now < y.at_
  | [], _, y, h => by cases h
  | x :: s, hs, y, h => by
    unfold restI at h
    rw [List.dropWhile_cons] at h
    split at h
    · exact rest_gt (List.pairwise_cons.1 hs).2 y h
    · rename_i hx
      have hx' : now < x.at_ := by simpa using hx
      rcases List.mem_cons.1 h with rfl | h
      · exact hx'
      · have := (List.pairwise_cons.1 hs).1 y h
        unfold ltI at this; omega
theorem due_split (now : Int) (s : List It) : dueI now s ++ restI now s = s := List.takeWhile_append_dropWhile
theorem due_lt {now : Int} {s : List It} (hs : s.Pairwise ltI) {i : Nat} (h : i < s.length) : (g s i).at_ ≤ now ↔ i < (dueI now s).length := by
  have hsp := due_split now s
  have hg := g_at h
  constructor
  · intro hle
    refine Decidable.byContradiction fun hn => ?_
    have : (dueI now s ++ restI now s)[i]? = some (g s i) := by rw [hsp]; exact hg
    rw [List.getElem?_append_right (by omega)] at this
    have := rest_gt hs _ (List.mem_of_getElem? this)
    omega
  · intro hlt
    have : (dueI now s ++ restI now s)[i]? = some (g s i) := by rw [hsp]; exact hg
    rw [List.getElem?_append_left hlt] at this
    have hm := List.mem_of_getElem? this
    have : ∀ (s : List It) (y : It), y ∈ dueI now s → y.at_ ≤ now := fun s => by
      induction s with
      | nil => intro y h; cases h
      | cons x s ih =>
        intro y h
        unfold dueI at h
        rw [List.takeWhile_cons] at h
        split at h
        · rename_i hx
          rcases List.mem_cons.1 h with rfl | h
          · simpa using hx
          · exact ih y h
        · cases h
    exact this s _ hm
theorem due_g {now : Int} {s : List It} {i : Nat} (h : i < (dueI now s).length) : (dueI now s)[i]? = some (g s i) := by
  have hsp := due_split now s
  have hl : i < s.length := by
    have := congrArg List.length hsp
    rw [List.length_append] at this; omega
  have : (dueI now s ++ restI now s)[i]? = some (g s i) := by rw [hsp]; exact g_at hl
  rwa [List.getElem?_append_left h] at this
set_option maxHeartbeats 2000000 in
theorem rall_ct (L : List SP) (b : Nat) (qs : List Q) (s : List It) (nx : Int) (hc : CoF qs s nx) : Ct Try.prog 51 #[.pointer (some ⟨b, 0, none⟩)] (RR b qs s nx :: L) (fun q_ : Option Addr × Nat => .slice q_.1 s.length q_.2) (fun q_ : Option Addr × Nat => OwI q_.1 s.length q_.2 s :: RR b qs s nx :: L) := by
  refine Ct.of (vs := [.pointer (some ⟨b, 0, none⟩)]) Try.func51 rfl rfl [(0, .pointer (some ⟨b, 0, none⟩))] (by repeat (first | exact trivial | refine ⟨rfl, ?_⟩)) ?_
  intro E
  show Hd E 57 _ _ _ _
  refine Hd.exs .here ?_
  rintro ⟨r, l, q, cm⟩
  simp only [List.cons_append, List.nil_append]
  refine Hd.pure (fun hr => ?_)
  obtain ⟨hs, f, hok⟩ := hc
  have hls : l.length = s.length := hr.perm.length_eq
  have hsl := hok.hF.len
  have hlt : ∀ x ∈ l, ∀ y ∈ l, (ltC x y ↔ ltI x y) := fun x hx y hy => ltC_I (hok.nin x (hr.perm.mem_iff.1 hx) y (hr.perm.mem_iff.1 hy))
  have hlnd : (l.map It.id).Nodup := (hr.perm.map It.id).nodup_iff.2 hok.hF.nd
  refine Hd.seq (fun K1 hK1 => ?_)
  refine Hd.region ?_
  refine Hd.yv (y_assign rfl) ?_
  refine Hd.nil ?_
  refine Hd.slots [(0, _)] ⟨rfl, trivial⟩ ?_
  refine Hd.toK hK1 ?_
  refine Hd.seq (fun K2 hK2 => ?_)
  refine Hd.region ?_
  refine Hd.yv (y_assign rfl) ?_
  refine Hd.nil ?_
  refine Hd.slots [(0, _), (3, _)] ⟨rfl, rfl, trivial⟩ ?_
  refine Hd.toK hK2 ?_
  refine Hd.seq (fun K3 hK3 => ?_)
  refine Hd.seq (fun K4 hK4 => ?_)
  refine Hd.region ?_
  refine Hd.yv (y_assign rfl) ?_
  refine Hd.nil ?_
  refine Hd.slots [(0, _), (3, _), (4, _)] ⟨rfl, rfl, rfl, trivial⟩ ?_
  refine Hd.toK hK4 ?_
  refine Hd.block ?_
  refine Hd.ownNil 31 3 none ?_
  refine Hd.loopK (ι := Nat × Option Addr × Nat × List It) [(0, _)] (fun q_ => [(3, .slice q_.2.1 q_.2.2.2.length q_.2.2.1), (4, .int .i64 (q_.1 : Int))]) (fun q_ => pu (q_.1 ≤ l.length ∧ q_.2.2.2.Perm (l.take q_.1) ∧ q_.2.2.2.Pairwise ltI) :: OwI q_.2.1 q_.2.2.2.length q_.2.2.1 q_.2.2.2 :: RcL b l q cm nx r L) (fun q_ => l.length - q_.1) (0, none, 0, []) (by repeat (first | exact trivial | refine ⟨rfl, ?_⟩)) (by repeat (first | exact trivial | refine ⟨rfl, ?_⟩)) (Ent.sep (.pure ⟨Nat.zero_le _, .nil, .nil⟩ enn)) ?_
  rintro ⟨i, ad, cp, out⟩
  try dsimp only
  refine Hd.pure (fun hp0 => ?_)
  try dsimp only at hp0
  refine Hd.seq (fun K5 hK5 => ?_)
  refine Hd.seq (fun K6 hK6 => ?_)
  refine Hd.region ?_
  refine Hd.yv (y_move rfl) ?_
  refine Hd.yv (y_move rfl) ?_
  refine Hd.yv (y_nilp rfl) ?_
  first | (refine Hd.yv (y_field' (q := 0) (ft := 22) Try.underlying69 rfl sz22 rfl rfl) ?_) | (refine Hd.yv (y_fieldR (q := 0) (ft := 22) Try.underlying69 rfl sz22 rfl rfl) ?_)
  first | (refine Hd.yv (y_load1 ag22 rfl (Rd.pt1 pkk (by (first | rfl)))) ?_) | (refine Hd.yv (y_load1 ag22 rfl (Rd.seg1 pkk (by (first | rfl)))) ?_) | (refine Hd.yv (y_loadR1 ag22 rfl (by (first | exact RdS.own pkk | exact rd_take (ad := ad) (cap := cp) pkk hkl | exact rd_drop (ad := ad) (cap := cp) pkk hkl hcap)) (by (first | rfl))) ?_)
  refine Hd.yv (y_len Try.underlying22 rfl) ?_
  refine Hd.yv (y_lss rfl rfl) ?_
  refine Hd.nil ?_
  refine Hd.slots [(0, _), (3, _), (4, _), (13, _)] ⟨rfl, rfl, rfl, rfl, trivial⟩ ?_
  refine Hd.toK hK6 ?_
  refine Hd.cond rfl (fun hc0 => ?_) (fun hc0 => ?_)
  ·
    try simp only [decide_eq_true_eq, decide_eq_false_iff_not, Bool.and_eq_true, Bool.or_eq_true, Bool.and_eq_false_iff, Bool.or_eq_false_iff, Bool.not_eq_true', Bool.not_eq_false', Bool.not_eq_true, Bool.not_eq_false, Int.not_lt, Int.not_le, Decidable.not_not, ne_eq] at hc0
    have hi : i < l.length := by omega
    have hgi : l[i]? = some (g l i) := g_at hi
    obtain ⟨_, hop, hos⟩ := hp0
    have hol : out.length = i := by rw [hop.length_eq, List.length_take]; omega
    have hom : ∀ y ∈ out, y ∈ l := fun y hy => List.mem_of_mem_take (hop.mem_iff.1 hy)
    have hoi : ∀ y ∈ out, y.id ≠ (g l i).id := fun y hy e => by
      have h1 : l = l.take i ++ g l i :: l.drop (i + 1) := by rw [← drop_at hi, List.take_append_drop]
      rw [h1, List.map_append, List.map_cons, List.nodup_append] at hlnd
      exact hlnd.2.2 y.id (List.mem_map.2 ⟨y, hop.mem_iff.1 hy, rfl⟩) (g l i).id List.mem_cons_self e
    refine Hd.ownCap (e := 31) (ad := ad) (m := out.length) (cap := cp) pkk (fun hcap => ?_)
    refine Hd.skip ?_
    refine Hd.toK hK5 ?_
    refine Hd.seq (fun K7 hK7 => ?_)
    refine Hd.block ?_
    refine Hd.seq (fun K8 hK8 => ?_)
    refine Hd.region ?_
    refine Hd.yv (y_assign rfl) ?_
    refine Hd.nil ?_
    refine Hd.slots [(0, _), (3, _), (4, _), (5, _)] ⟨rfl, rfl, rfl, rfl, trivial⟩ ?_
    refine Hd.toK hK8 ?_
    refine Hd.seq (fun K9 hK9 => ?_)
    refine Hd.block ?_
    refine Hd.loopK (ι := Nat) [(0, _), (3, _), (4, _)] (fun k => [(5, .int .i64 (k : Int))]) (fun k => pu (k ≤ out.length ∧ ∀ j, j < k → ltI (g out j) (g l i)) :: OwI ad out.length cp out :: RcL b l q cm nx r L) (fun k => out.length - k) 0 (by repeat (first | exact trivial | refine ⟨rfl, ?_⟩)) (by repeat (first | exact trivial | refine ⟨rfl, ?_⟩)) (Ent.sep (.pure ⟨Nat.zero_le _, fun j h => absurd h (Nat.not_lt_zero j)⟩ enn)) ?_
    intro k
    try dsimp only
    refine Hd.pure (fun hp1 => ?_)
    try dsimp only at hp1
    refine Hd.seq (fun K10 hK10 => ?_)
    refine Hd.seq (fun K11 hK11 => ?_)
    refine Hd.quiet mixed (by kernel_rfl) ?_
    refine Hq.yv (y_move rfl) ?_
    refine Hq.yv (y_move rfl) ?_
    refine Hq.yv (y_len Try.underlying22 rfl) ?_
    refine Hq.yv (y_lss rfl rfl) ?_
    refine Hq.yv (y_move rfl) ?_
    apply Hq.andg 13 20 33 [(0, _), (3, _), (4, _), (5, _)] rfl ⟨rfl, rfl, rfl, rfl, trivial⟩
    · intro hg6_20
      try simp only [decide_eq_true_eq, decide_eq_false_iff_not, Bool.and_eq_true, Bool.or_eq_true, Bool.and_eq_false_iff, Bool.or_eq_false_iff, Bool.not_eq_true', Bool.not_eq_false', Bool.not_eq_true, Bool.not_eq_false, Int.not_lt, Int.not_le, Decidable.not_not, ne_eq] at hg6_20
      simp only [List.take]
      refine Hq.yg rfl rfl (y_move rfl) ?_
      refine Hq.yg rfl rfl (y_move rfl) ?_
      first | (refine Hq.yg rfl rfl (y_idxS Try.underlying22 sz31 rfl rfl (by first | omega | decide)) ?_) | (refine Hq.yg rfl rfl (y_idxR Try.underlying22 sz31 rfl rfl (by first | omega | decide) (by (first | exact RdS.own pkk | exact rd_take (ad := ad) (cap := cp) pkk hkl | exact rd_drop (ad := ad) (cap := cp) pkk hkl hcap))) ?_)
      refine Hq.yg rfl rfl (y_loadRn (vs := [_, _, _]) ag31 rfl (RdS.own (ad := ad) (us := out.flatMap Hp.encI) pkk) (flat_cells Hp.encI 3 (fun _ => rfl) (g_at (show k < out.length by omega))) (by exact sz31) (by simp)) ?_
      refine Hq.yg rfl rfl (y_move rfl) ?_
      refine Hq.yg rfl rfl (y_nilp rfl) ?_
      first | (refine Hq.yg rfl rfl (y_field' (q := 0) (ft := 22) Try.underlying69 rfl sz22 rfl rfl) ?_) | (refine Hq.yg rfl rfl (y_fieldR (q := 0) (ft := 22) Try.underlying69 rfl sz22 rfl rfl) ?_)
      first | (refine Hq.yg rfl rfl (y_load1 ag22 rfl (Rd.pt1 pkk (by (first | rfl)))) ?_) | (refine Hq.yg rfl rfl (y_load1 ag22 rfl (Rd.seg1 pkk (by (first | rfl)))) ?_) | (refine Hq.yg rfl rfl (y_loadR1 ag22 rfl (by (first | exact RdS.own pkk | exact rd_take (ad := ad) (cap := cp) pkk hkl | exact rd_drop (ad := ad) (cap := cp) pkk hkl hcap)) (by (first | rfl))) ?_)
      refine Hq.yg rfl rfl (y_move rfl) ?_
      first | (refine Hq.yg rfl rfl (y_idxS Try.underlying22 sz31 rfl rfl (by first | omega | decide)) ?_) | (refine Hq.yg rfl rfl (y_idxR Try.underlying22 sz31 rfl rfl (by first | omega | decide) (by (first | exact RdS.own pkk | exact rd_take (ad := ad) (cap := cp) pkk hkl | exact rd_drop (ad := ad) (cap := cp) pkk hkl hcap))) ?_)
      refine Hq.yg rfl rfl (y_loadRn (vs := [_, _, _]) ag31 rfl (RdS.own (ad := r.a1) (us := l.flatMap Hp.encI) pkk) (flat_cells Hp.encI 3 (fun _ => rfl) hgi) (by exact sz31) (by simp)) ?_
      refine Hq.unguard rfl rfl ?_
      refine Hq.call rfl fk54 (ahead_ct _ (g out k) (g l i)) ?_
      first | (refine Hq.yv (y_pickT rfl rfl) ?_) | (refine Hq.yv (y_pickF rfl rfl) ?_) | (refine Hq.yv (y_pickb rfl rfl rfl) ?_) | (refine Hq.yv (y_pick rfl rfl rfl) ?_)
      exact Hq.mend (by repeat (first | exact trivial | refine ⟨rfl, ?_⟩))
    · intro hg6_20
      try simp only [decide_eq_true_eq, decide_eq_false_iff_not, Bool.and_eq_true, Bool.or_eq_true, Bool.and_eq_false_iff, Bool.or_eq_false_iff, Bool.not_eq_true', Bool.not_eq_false', Bool.not_eq_true, Bool.not_eq_false, Int.not_lt, Int.not_le, Decidable.not_not, ne_eq] at hg6_20
      simp only [List.take]
      refine Hq.ng rfl rfl rfl ?_
      refine Hq.ng rfl rfl rfl ?_
      refine Hq.ng rfl rfl rfl ?_
      refine Hq.ng rfl rfl rfl ?_
      refine Hq.ng rfl rfl rfl ?_
      refine Hq.ng rfl rfl rfl ?_
      refine Hq.ng rfl rfl rfl ?_
      refine Hq.ng rfl rfl rfl ?_
      refine Hq.ng rfl rfl rfl ?_
      refine Hq.ng rfl rfl rfl ?_
      refine Hq.ng rfl rfl rfl ?_
      refine Hq.ng rfl rfl rfl ?_
      first | (refine Hq.yv (y_pickT rfl rfl) ?_) | (refine Hq.yv (y_pickF rfl rfl) ?_) | (refine Hq.yv (y_pickb rfl rfl rfl) ?_) | (refine Hq.yv (y_pick rfl rfl rfl) ?_)
      exact Hq.mend (by repeat (first | exact trivial | refine ⟨rfl, ?_⟩))
    simp only [List.drop]
    refine Hq.nil ?_
    refine Hd.slots [(0, _), (3, _), (4, _), (5, _), (33, _)] ⟨rfl, rfl, rfl, rfl, rfl, trivial⟩ ?_
    refine Hd.toK hK11 ?_
    refine Hd.cond rfl (fun hc1 => ?_) (fun hc1 => ?_)
    ·
      try simp only [decide_eq_true_eq, decide_eq_false_iff_not, Bool.and_eq_true, Bool.or_eq_true, Bool.and_eq_false_iff, Bool.or_eq_false_iff, Bool.not_eq_true', Bool.not_eq_false', Bool.not_eq_true, Bool.not_eq_false, Int.not_lt, Int.not_le, Decidable.not_not, ne_eq] at hc1
      refine Hd.skip ?_
      refine Hd.toK hK10 ?_
      refine Hd.block ?_
      refine Hd.region ?_
      refine Hd.yv (y_move rfl) ?_
      first | (refine Hd.yv (y_addn rfl rfl (by simp only [InK]; omega)) ?_) | (refine Hd.yv (y_add rfl rfl) ?_)
      refine Hd.yv (y_assign rfl) ?_
      refine Hd.nil ?_
      refine Hd.slots [(0, _), (3, _), (4, _), (5, _)] ⟨rfl, rfl, rfl, rfl, trivial⟩ ?_
      refine Hd.inB ?_
      clear hK1 hK2 hK3 hK4 hK5 hK6 hK7 hK8 hK9 hK10 hK11
      refine Hd.thenN ?_
      have hkk : ∀ j, j < k + 1 → ltI (g out j) (g l i) := by
        intro j hj
        rcases (show j < k ∨ j = k by omega) with h | rfl
        · exact hp1.2 j h
        · exact (hlt _ (hom _ (g_mem (by omega))) _ (g_mem hi)).1 hc1.2
      exact Hd.again (k + 1) (by first | omega | (simp only; omega) | (simp; omega)) (by repeat (first | exact trivial | refine ⟨rfl, ?_⟩)) (Ent.sep (.pure ⟨by omega, hkk⟩ enn))
    ·
      try simp only [decide_eq_true_eq, decide_eq_false_iff_not, Bool.and_eq_true, Bool.or_eq_true, Bool.and_eq_false_iff, Bool.or_eq_false_iff, Bool.not_eq_true', Bool.not_eq_false', Bool.not_eq_true, Bool.not_eq_false, Int.not_lt, Int.not_le, Decidable.not_not, ne_eq] at hc1
      have hst : k < out.length → ¬ ltI (g out k) (g l i) := fun h q => by
        have h2 := (hlt _ (hom _ (g_mem h)) _ (g_mem hi)).2 q
        rcases hc1 with h3 | h3
        · omega
        · exact h3 h2
      have hins := ins_at (x := g l i) hp1.1 hp1.2 hst
      have hkl := hp1.1
      have hnl : 0 + k + 1 + (out.length - k) = (insI (g l i) out).length := by rw [hins, List.length_append, List.length_cons, List.length_take, List.length_drop]; omega
      refine Hd.exit ?_
      refine Hd.thenExit ?_
      refine Hd.thenExit ?_
      refine Hd.inBexit ?_
      refine Hd.toK hK9 ?_
      refine Hd.seq (fun K12 hK12 => ?_)
      refine Hd.region ?_
      refine Hd.yv (y_assign rfl) ?_
      refine Hd.nil ?_
      refine Hd.slots [(0, _), (3, _), (4, _), (5, _), (6, _)] ⟨rfl, rfl, rfl, rfl, rfl, trivial⟩ ?_
      refine Hd.toK hK12 ?_
      refine Hd.seq (fun K13 hK13 => ?_)
      refine Hd.ownNil 31 3 none ?_
      refine Hd.region ?_
      refine Hd.yv (y_move rfl) ?_
      refine Hd.yv (y_move rfl) ?_
      refine Hd.yv (y_move rfl) ?_
      first | (refine Hd.yv (y_slo_xoxN Try.underlying22 sz31 rfl rfl (by first | omega | (simp; done) | decide)) ?_) | (refine Hd.yv (y_slo_xox Try.underlying22 sz31 rfl rfl (by first | omega | (simp; done) | decide) (by first | omega | (simp; done) | decide)) ?_)
      refine Hd.append Try.underlying22 ty31 rfl rfl rfl pkk (by first | exact RdS.rd (Rd.pt pkk (fun j v e => by simpa using e)) rfl | (first | exact RdS.own pkk | exact rd_take (ad := ad) (cap := cp) pkk hkl | exact rd_drop (ad := ad) (cap := cp) pkk hkl hcap)) (by first | (simp [Value.oneCell']; done) | assumption | exact flat_one) (by first | (simp only [maxLen]; omega) | assumption) (by omega) (fun ad40 cap40 => ?_)
      refine Hd.yv (y_assign rfl) ?_
      refine Hd.nil ?_
      refine Hd.slots [(0, _), (3, _), (4, _), (5, _), (6, _)] ⟨rfl, rfl, rfl, rfl, rfl, trivial⟩ ?_
      refine Hd.toK hK13 ?_
      refine Hd.seq (fun K14 hK14 => ?_)
      refine Hd.region ?_
      refine Hd.yv (y_move rfl) ?_
      refine Hd.yv (y_move rfl) ?_
      refine Hd.yv (y_nilp rfl) ?_
      first | (refine Hd.yv (y_field' (q := 0) (ft := 22) Try.underlying69 rfl sz22 rfl rfl) ?_) | (refine Hd.yv (y_fieldR (q := 0) (ft := 22) Try.underlying69 rfl sz22 rfl rfl) ?_)
      first | (refine Hd.yv (y_load1 ag22 rfl (Rd.pt1 pkk (by (first | rfl)))) ?_) | (refine Hd.yv (y_load1 ag22 rfl (Rd.seg1 pkk (by (first | rfl)))) ?_) | (refine Hd.yv (y_loadR1 ag22 rfl (by (first | exact RdS.own pkk | exact rd_take (ad := ad) (cap := cp) pkk hkl | exact rd_drop (ad := ad) (cap := cp) pkk hkl hcap)) (by (first | rfl))) ?_)
      refine Hd.yv (y_move rfl) ?_
      first | (refine Hd.yv (y_idxS Try.underlying22 sz31 rfl rfl (by first | omega | decide)) ?_) | (refine Hd.yv (y_idxR Try.underlying22 sz31 rfl rfl (by first | omega | decide) (by (first | exact RdS.own pkk | exact rd_take (ad := ad) (cap := cp) pkk hkl | exact rd_drop (ad := ad) (cap := cp) pkk hkl hcap))) ?_)
      refine Hd.yv (y_loadRn (vs := [_, _, _]) ag31 rfl (RdS.own (ad := r.a1) (us := l.flatMap Hp.encI) pkk) (flat_cells Hp.encI 3 (fun _ => rfl) hgi) (by exact sz31) (by simp)) ?_
      refine Hd.bslice (vs := [(0, _)]) rfl (by first | exact bs51_49 .. | kernel_rfl) (fun b49 => ?_)
      refine Hd.append Try.underlying22 ty31 rfl rfl rfl pkk (by first | exact RdS.rd (Rd.pt pkk (fun j v e => by simpa using e)) rfl | (first | exact RdS.own pkk | exact rd_take (ad := ad) (cap := cp) pkk hkl | exact rd_drop (ad := ad) (cap := cp) pkk hkl hcap)) (by first | (simp [Value.oneCell']; done) | assumption | exact flat_one) (by first | (simp only [maxLen]; omega) | assumption) (by omega) (fun ad50 cap50 => ?_)
      refine Hd.yv (y_assign rfl) ?_
      refine Hd.nil ?_
      refine Hd.slots [(0, _), (3, _), (4, _), (5, _), (6, _)] ⟨rfl, rfl, rfl, rfl, rfl, trivial⟩ ?_
      refine Hd.toK hK14 ?_
      refine Hd.region ?_
      refine Hd.yv (y_move rfl) ?_
      refine Hd.yv (y_move rfl) ?_
      refine Hd.yv (y_move rfl) ?_
      first | (refine Hd.yv (y_slo_oxxN Try.underlying22 sz31 rfl rfl (by first | omega | (simp; done) | decide)) ?_) | (refine Hd.yv (y_slo_oxx Try.underlying22 sz31 rfl rfl (by first | omega | (simp; done) | decide) (by first | omega | (simp; done) | decide)) ?_)
      refine Hd.append Try.underlying22 ty31 rfl rfl rfl pkk (by first | exact RdS.rd (Rd.pt pkk (fun j v e => by simpa using e)) rfl | (first | exact RdS.own pkk | exact rd_take (ad := ad) (cap := cp) pkk hkl | exact rd_drop (ad := ad) (cap := cp) pkk hkl hcap)) (by first | (simp [Value.oneCell']; done) | assumption | exact flat_one) (by first | (simp only [maxLen]; omega) | assumption) (by omega) (fun ad55 cap55 => ?_)
      refine Hd.yv (y_assign rfl) ?_
      refine Hd.nil ?_
      refine Hd.slots [(0, _), (3, _), (4, _)] ⟨rfl, rfl, rfl, trivial⟩ ?_
      refine Hd.inB ?_
      refine Hd.toK hK7 ?_
      refine Hd.region ?_
      refine Hd.yv (y_move rfl) ?_
      first | (refine Hd.yv (y_addn rfl rfl (by simp only [InK]; omega)) ?_) | (refine Hd.yv (y_add rfl rfl) ?_)
      refine Hd.yv (y_assign rfl) ?_
      refine Hd.nil ?_
      refine Hd.slots [(0, _), (3, _), (4, _)] ⟨rfl, rfl, rfl, trivial⟩ ?_
      clear hK1 hK2 hK3 hK4 hK5 hK6 hK7 hK8 hK9 hK10 hK11 hK12 hK13 hK14
      refine Hd.thenN ?_
      rw [hnl]; refine Hd.heap (OwI ad55 (insI (g l i) out).length cap55 (insI (g l i) out) :: RcL b l q cm nx r L) (Ent.sep (.eq pkk (own_eq3 rfl rfl (show [] ++ (out.take k).flatMap Hp.encI ++ Hp.encI (g l i) ++ (out.drop k).flatMap Hp.encI = _ by rw [hins]; simp)) enn)) ?_
      exact Hd.again (i + 1, ad55, cap55, insI (g l i) out) (by first | omega | (simp only; omega) | (simp; omega)) (by repeat (first | exact trivial | refine ⟨rfl, ?_⟩)) (Ent.sep (.pure ⟨hi, by show (insI (g l i) out).Perm (l.take (i + 1)); rw [List.take_add_one, hgi]; exact (insI_perm _ _).trans ((List.Perm.cons _ hop).trans (List.perm_append_singleton _ _).symm), insI_srt hos (fun y hy e => hoi y hy (by rw [e]))⟩ enn))
  ·
    try simp only [decide_eq_true_eq, decide_eq_false_iff_not, Bool.and_eq_true, Bool.or_eq_true, Bool.and_eq_false_iff, Bool.or_eq_false_iff, Bool.not_eq_true', Bool.not_eq_false', Bool.not_eq_true, Bool.not_eq_false, Int.not_lt, Int.not_le, Decidable.not_not, ne_eq] at hc0
    have hi : i = l.length := by omega
    have hos : out = s := by
      have h := hp0.2.1
      rw [hi, List.take_length] at h
      exact srt_eq hp0.2.2 hok.hF.srt (h.trans hr.perm)
    subst hos
    refine Hd.exit ?_
    refine Hd.thenExit ?_
    refine Hd.thenExit ?_
    refine Hd.inBexit ?_
    refine Hd.toK hK3 ?_
    refine Hd.seq (fun K15 hK15 => ?_)
    refine Hd.region ?_
    refine Hd.yv (y_move rfl) ?_
    refine Hd.yv (y_assign rfl) ?_
    refine Hd.nil ?_
    refine Hd.slots [(2, _)] ⟨rfl, trivial⟩ ?_
    refine Hd.toK hK15 ?_
    refine Hd.ret ?_
    clear hK1 hK2 hK3 hK4 hK5 hK6 hK15
    exact Hd.ret1 rfl (ad, cp) rfl (Ent.sep (.pick pkk (.ex ⟨r, l, q, cm⟩ (.pure hr enn))))
set_option maxHeartbeats 2000000 in
theorem rdue_ct (L : List SP) (b : Nat) (qs : List Q) (s : List It) (nx : Int) (hc : CoF qs s nx) (now : Int) : Ct Try.prog 49 #[.pointer (some ⟨b, 0, none⟩), .int .u64 now] (RR b qs s nx :: L) (fun q_ : Option Addr × Nat => .slice q_.1 (dueI now s).length q_.2) (fun q_ : Option Addr × Nat => OwI q_.1 (dueI now s).length q_.2 (dueI now s) :: RR b (cutAll (dueI now s) qs) (restI now s) nx :: L) := by
  refine Ct.of (vs := [.pointer (some ⟨b, 0, none⟩), .int .u64 now]) Try.func49 rfl rfl [(0, .pointer (some ⟨b, 0, none⟩)), (1, .int .u64 now)] (by repeat (first | exact trivial | refine ⟨rfl, ?_⟩)) ?_
  intro E
  show Hd E 38 _ _ _ _
  have hF := hc.hF
  have hsl := hF.len
  have hdl : (dueI now s).length ≤ s.length := by have := congrArg List.length (due_split now s); rw [List.length_append] at this; omega
  refine Hd.seq (fun K1 hK1 => ?_)
  refine Hd.region ?_
  refine Hd.yv (y_assign rfl) ?_
  refine Hd.nil ?_
  refine Hd.slots [(0, _), (1, _)] ⟨rfl, rfl, trivial⟩ ?_
  refine Hd.toK hK1 ?_
  refine Hd.seq (fun K2 hK2 => ?_)
  refine Hd.region ?_
  refine Hd.yv (y_move rfl) ?_
  refine Hd.callE rfl fk51 (rall_ct L b qs s nx hc) (Ent.sep enn) ?_
  rintro ⟨a5, c5⟩
  dsimp only
  refine Hd.yv (y_assign rfl) ?_
  refine Hd.nil ?_
  refine Hd.slots [(0, _), (1, _), (5, _)] ⟨rfl, rfl, rfl, trivial⟩ ?_
  refine Hd.toK hK2 ?_
  refine Hd.seq (fun K3 hK3 => ?_)
  refine Hd.region ?_
  refine Hd.yv (y_assign rfl) ?_
  refine Hd.nil ?_
  refine Hd.slots [(0, _), (1, _), (5, _), (6, _)] ⟨rfl, rfl, rfl, rfl, trivial⟩ ?_
  refine Hd.toK hK3 ?_
  refine Hd.seq (fun K4 hK4 => ?_)
  refine Hd.seq (fun K5 hK5 => ?_)
  refine Hd.region ?_
  refine Hd.yv (y_assign rfl) ?_
  refine Hd.nil ?_
  refine Hd.slots [(0, _), (1, _), (5, _), (6, _), (7, _)] ⟨rfl, rfl, rfl, rfl, rfl, trivial⟩ ?_
  refine Hd.toK hK5 ?_
  refine Hd.block ?_
  refine Hd.ownNil 31 3 none ?_
  refine Hd.loopK (ι := Nat × Option Addr × Nat) [(0, _), (1, _), (5, _)] (fun q_ => [(6, .slice q_.2.1 ((dueI now s).take q_.1).length q_.2.2), (7, .int .i64 (q_.1 : Int))]) (fun q_ => pu (q_.1 ≤ s.length) :: OwI q_.2.1 ((dueI now s).take q_.1).length q_.2.2 ((dueI now s).take q_.1) :: OwI a5 s.length c5 s :: RR b (cutAll ((dueI now s).take q_.1) qs) (s.drop (min q_.1 (dueI now s).length)) nx :: L) (fun q_ => s.length - q_.1) (0, none, 0) (by repeat (first | exact trivial | refine ⟨rfl, ?_⟩)) (by repeat (first | exact trivial | refine ⟨rfl, ?_⟩)) (Ent.sep (.pure (by first | omega | (simp; done) | (simp; omega) | exact ⟨by simp, by simp⟩) enn)) ?_
  rintro ⟨i, ad, cp⟩
  try dsimp only
  refine Hd.pure (fun hp0 => ?_)
  try dsimp only at hp0
  refine Hd.seq (fun K6 hK6 => ?_)
  refine Hd.seq (fun K7 hK7 => ?_)
  refine Hd.region ?_
  refine Hd.yv (y_move rfl) ?_
  refine Hd.yv (y_move rfl) ?_
  refine Hd.yv (y_len Try.underlying22 rfl) ?_
  refine Hd.yv (y_lss rfl rfl) ?_
  refine Hd.nil ?_
  refine Hd.slots [(0, _), (1, _), (5, _), (6, _), (7, _), (13, _)] ⟨rfl, rfl, rfl, rfl, rfl, rfl, trivial⟩ ?_
  refine Hd.toK hK7 ?_
  refine Hd.cond rfl (fun hc0 => ?_) (fun hc0 => ?_)
  ·
    try simp only [decide_eq_true_eq, decide_eq_false_iff_not, Bool.and_eq_true, Bool.or_eq_true, Bool.and_eq_false_iff, Bool.or_eq_false_iff, Bool.not_eq_true', Bool.not_eq_false', Bool.not_eq_true, Bool.not_eq_false, Int.not_lt, Int.not_le, Decidable.not_not, ne_eq] at hc0
    have hi : i < s.length := by omega
    have hgi : s[i]? = some (g s i) := g_at hi
    have hdlt := due_lt (now := now) hF.srt hi
    refine Hd.skip ?_
    refine Hd.toK hK6 ?_
    refine Hd.seq (fun K8 hK8 => ?_)
    refine Hd.block ?_
    refine Hd.seq (fun K9 hK9 => ?_)
    refine Hd.region ?_
    refine Hd.yv (y_move rfl) ?_
    refine Hd.yv (y_move rfl) ?_
    first | (refine Hd.yv (y_idxS Try.underlying22 sz31 rfl rfl (by first | omega | decide)) ?_) | (refine Hd.yv (y_idxR Try.underlying22 sz31 rfl rfl (by first | omega | decide) (by (first | exact RdS.own pkk))) ?_)
    first | (refine Hd.yv (y_field' (q := 1) (ft := 29) Try.underlying31 rfl sz29 rfl rfl) ?_) | (refine Hd.yv (y_fieldR (q := 1) (ft := 29) Try.underlying31 rfl sz29 rfl rfl) ?_)
    refine Hd.yv (y_loadR1 ag29 rfl (RdS.own (ad := a5) (us := s.flatMap Hp.encI) pkk) (flat_cells Hp.encI 3 (fun _ => rfl) hgi 1 _ rfl)) ?_
    refine Hd.yv (y_move rfl) ?_
    refine Hd.yv (y_leq rfl rfl) ?_
    refine Hd.nil ?_
    refine Hd.slots [(0, _), (1, _), (5, _), (6, _), (7, _), (22, _)] ⟨rfl, rfl, rfl, rfl, rfl, rfl, trivial⟩ ?_
    refine Hd.toK hK9 ?_
    refine Hd.cond rfl (fun hc1 => ?_) (fun hc1 => ?_)
    ·
      try simp only [decide_eq_true_eq, decide_eq_false_iff_not, Bool.and_eq_true, Bool.or_eq_true, Bool.and_eq_false_iff, Bool.or_eq_false_iff, Bool.not_eq_true', Bool.not_eq_false', Bool.not_eq_true, Bool.not_eq_false, Int.not_lt, Int.not_le, Decidable.not_not, ne_eq] at hc1
      have hid : i < (dueI now s).length := hdlt.1 hc1
      have htk : (dueI now s).take (i + 1) = (dueI now s).take i ++ [g s i] := by rw [List.take_add_one, due_g hid]; rfl
      have hln : ((dueI now s).take i).length + 1 = ((dueI now s).take (i + 1)).length := by rw [htk, List.length_append]; rfl
      have hln2 : ((dueI now s).take i).length ≤ i := by rw [List.length_take]; omega
      have hmin : min i (dueI now s).length = i := by omega
      have hmin2 : min (i + 1) (dueI now s).length = i + 1 := by omega
      have hFd := hpf_drop hF i
      have hre : remI (g s i).id (s.drop i) = s.drop (i + 1) := by rw [drop_at hi] at hFd ⊢; exact rem_head hFd
      rw [hmin]
      refine Hd.seq (fun K10 hK10 => ?_)
      refine Hd.region ?_
      refine Hd.yv (y_move rfl) ?_
      refine Hd.yv (y_move rfl) ?_
      refine Hd.yv (y_move rfl) ?_
      first | (refine Hd.yv (y_idxS Try.underlying22 sz31 rfl rfl (by first | omega | decide)) ?_) | (refine Hd.yv (y_idxR Try.underlying22 sz31 rfl rfl (by first | omega | decide) (by (first | exact RdS.own pkk))) ?_)
      refine Hd.yv (y_loadRn (vs := [_, _, _]) ag31 rfl (RdS.own (ad := a5) (us := s.flatMap Hp.encI) pkk) (flat_cells Hp.encI 3 (fun _ => rfl) hgi) (by exact sz31) (by simp)) ?_
      refine Hd.bslice (vs := [(0, _)]) rfl (by first | exact bs49_28 .. | kernel_rfl) (fun b28 => ?_)
      refine Hd.append Try.underlying22 ty31 rfl rfl rfl pkk (by first | exact RdS.rd (Rd.pt pkk (fun j v e => by simpa using e)) rfl | (first | exact RdS.own pkk)) (by first | (simp [Value.oneCell']; done) | assumption) (by first | (simp only [maxLen]; omega) | assumption) (by omega) (fun ad29 cap29 => ?_)
      refine Hd.yv (y_assign rfl) ?_
      refine Hd.nil ?_
      refine Hd.slots [(0, _), (1, _), (5, _), (6, _), (7, _)] ⟨rfl, rfl, rfl, rfl, rfl, trivial⟩ ?_
      refine Hd.toK hK10 ?_
      refine Hd.region ?_
      refine Hd.yv (y_move rfl) ?_
      refine Hd.yv (y_move rfl) ?_
      refine Hd.yv (y_move rfl) ?_
      first | (refine Hd.yv (y_idxS Try.underlying22 sz31 rfl rfl (by first | omega | decide)) ?_) | (refine Hd.yv (y_idxR Try.underlying22 sz31 rfl rfl (by first | omega | decide) (by (first | exact RdS.own pkk))) ?_)
      first | (refine Hd.yv (y_field' (q := 0) (ft := 3) Try.underlying31 rfl sz3 rfl rfl) ?_) | (refine Hd.yv (y_fieldR (q := 0) (ft := 3) Try.underlying31 rfl sz3 rfl rfl) ?_)
      refine Hd.yv (y_loadR1 ag3 rfl (RdS.own (ad := a5) (us := s.flatMap Hp.encI) pkk) (flat_cells Hp.encI 3 (fun _ => rfl) hgi 0 _ rfl)) ?_
      refine Hd.callE rfl fk48 (rcut_ct _ b (cutAll ((dueI now s).take i) qs) (s.drop i) nx hFd (g s i).id) (Ent.sep enn) ?_
      intro _
      rw [hre, ← cutAll_snoc, ← htk]
      refine Hd.nil ?_
      refine Hd.slots [(0, _), (1, _), (5, _), (6, _), (7, _)] ⟨rfl, rfl, rfl, rfl, rfl, trivial⟩ ?_
      refine Hd.inB ?_
      refine Hd.toK hK8 ?_
      refine Hd.region ?_
      refine Hd.yv (y_move rfl) ?_
      first | (refine Hd.yv (y_addn rfl rfl (by simp only [InK]; omega)) ?_) | (refine Hd.yv (y_add rfl rfl) ?_)
      refine Hd.yv (y_assign rfl) ?_
      refine Hd.nil ?_
      refine Hd.slots [(0, _), (1, _), (5, _), (6, _), (7, _)] ⟨rfl, rfl, rfl, rfl, rfl, trivial⟩ ?_
      clear hK1 hK2 hK3 hK4 hK5 hK6 hK7 hK8 hK9 hK10
      refine Hd.thenN ?_
      rw [hln]; refine Hd.heap (OwI ad29 ((dueI now s).take (i + 1)).length cap29 ((dueI now s).take (i + 1)) :: OwI a5 s.length c5 s :: RR b (cutAll ((dueI now s).take (i + 1)) qs) (s.drop (min (i + 1) (dueI now s).length)) nx :: L) (Ent.sep (.eq pkk (own_eq3 rfl rfl (by rw [htk, List.flatMap_append]; rfl)) (.pick pkk (.eq pkk (RR_eq rfl (by rw [hmin2])) enn)))) ?_
      exact Hd.again (i + 1, ad29, cap29) (by first | omega | (simp only; omega) | (simp; omega)) (by repeat (first | exact trivial | refine ⟨rfl, ?_⟩)) (Ent.sep (.pure (by first | omega | (simp; done) | (simp; omega) | (dsimp only; omega)) enn))
    ·
      try simp only [decide_eq_true_eq, decide_eq_false_iff_not, Bool.and_eq_true, Bool.or_eq_true, Bool.and_eq_false_iff, Bool.or_eq_false_iff, Bool.not_eq_true', Bool.not_eq_false', Bool.not_eq_true, Bool.not_eq_false, Int.not_lt, Int.not_le, Decidable.not_not, ne_eq] at hc1
      have hid : ¬ i < (dueI now s).length := fun h => by have := hdlt.2 h; omega
      have htk : (dueI now s).take (i + 1) = (dueI now s).take i := by rw [List.take_of_length_le (by omega), List.take_of_length_le (by omega)]
      have hmin : min i (dueI now s).length = min (i + 1) (dueI now s).length := by omega
      rw [hmin, ← htk]
      refine Hd.skip ?_
      refine Hd.inB ?_
      refine Hd.toK hK8 ?_
      refine Hd.region ?_
      refine Hd.yv (y_move rfl) ?_
      first | (refine Hd.yv (y_addn rfl rfl (by simp only [InK]; omega)) ?_) | (refine Hd.yv (y_add rfl rfl) ?_)
      refine Hd.yv (y_assign rfl) ?_
      refine Hd.nil ?_
      refine Hd.slots [(0, _), (1, _), (5, _), (6, _), (7, _)] ⟨rfl, rfl, rfl, rfl, rfl, trivial⟩ ?_
      clear hK1 hK2 hK3 hK4 hK5 hK6 hK7 hK8 hK9
      refine Hd.thenN ?_
      exact Hd.again (i + 1, ad, cp) (by first | omega | (simp only; omega) | (simp; omega)) (by repeat (first | exact trivial | refine ⟨rfl, ?_⟩)) (Ent.sep (.pure (by first | omega | (simp; done) | (simp; omega) | (dsimp only; omega)) enn))
  ·
    try simp only [decide_eq_true_eq, decide_eq_false_iff_not, Bool.and_eq_true, Bool.or_eq_true, Bool.and_eq_false_iff, Bool.or_eq_false_iff, Bool.not_eq_true', Bool.not_eq_false', Bool.not_eq_true, Bool.not_eq_false, Int.not_lt, Int.not_le, Decidable.not_not, ne_eq] at hc0
    have hi : i = s.length := by omega
    have htk : (dueI now s).take i = dueI now s := List.take_of_length_le (by omega)
    have hmin : min i (dueI now s).length = (dueI now s).length := by omega
    rw [htk, hmin, due_rest]
    refine Hd.exit ?_
    refine Hd.thenExit ?_
    refine Hd.thenExit ?_
    refine Hd.inBexit ?_
    refine Hd.toK hK4 ?_
    refine Hd.seq (fun K11 hK11 => ?_)
    refine Hd.region ?_
    refine Hd.yv (y_move rfl) ?_
    refine Hd.yv (y_assign rfl) ?_
    refine Hd.nil ?_
    refine Hd.slots [(4, _)] ⟨rfl, trivial⟩ ?_
    refine Hd.toK hK11 ?_
    refine Hd.ret ?_
    clear hK1 hK2 hK3 hK4 hK5 hK6 hK7 hK11
    exact Hd.ret1 rfl (ad, cp) rfl (Ent.sep enn)
end Cm
end Go.Proofs.Ytcnegelaenkgpaa
