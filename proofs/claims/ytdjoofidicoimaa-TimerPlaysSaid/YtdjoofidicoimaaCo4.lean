/-
  Sets of deadlines: an item's place in a queue, Delete, New, Cut.
-/
import Derived.Test.YtdjoofidicoimaaCo3
namespace Go.Proofs.Ytdjoofidicoimaa
set_option linter.unusedSimpArgs false
set_option linter.unusedVariables false
set_option linter.unnecessarySimpa false
open Go.RX Fx Hp
namespace Cm
set_option maxRecDepth 8000
set_option maxHeartbeats 2000000 in
theorem placef_ct (L : List SP) (b : Nat) (id : Int) (x : It) : Ct Try.prog 75 #[aggI x, .pointer (some ⟨b, 0, none⟩)] (pt b [.int .i64 id] 3 :: L) (fun _ : Unit => .bool (decide (x.id = id))) (fun _ : Unit => pt b [.int .i64 id] 3 :: L) := by
  refine Ct.of (vs := [aggI x, .pointer (some ⟨b, 0, none⟩)]) Try.func75 rfl rfl [(0, aggI x), (1, .pointer (some ⟨b, 0, none⟩))] (by repeat (first | exact trivial | refine ⟨rfl, ?_⟩)) ?_
  intro E
  show Hd E 8 _ _ _ _
  refine Hd.seq (fun K1 hK1 => ?_)
  refine Hd.region ?_
  refine Hd.box rfl rfl (fun b2 => ?_)
  refine Hd.yv (y_assign rfl) ?_
  refine Hd.nil ?_
  refine Hd.slots [(1, _), (2, _)] ⟨rfl, rfl, trivial⟩ ?_
  refine Hd.toK hK1 ?_
  refine Hd.seq (fun K2 hK2 => ?_)
  refine Hd.region ?_
  first | (refine Hd.yv (y_field' (q := 0) (ft := 3) Try.underlying69 rfl sz3 rfl rfl) ?_) | (refine Hd.yv (y_fieldR (q := 0) (ft := 3) Try.underlying69 rfl sz3 rfl rfl) ?_)
  first | (refine Hd.yv (y_load1 ag3 rfl (Rd.pt1 pkk (by (first | rfl)))) ?_) | (refine Hd.yv (y_load1 ag3 rfl (Rd.seg1 pkk (by (first | rfl)))) ?_) | (refine Hd.yv (y_loadR1 ag3 rfl (by (first | exact RdS.own pkk)) (by (first | rfl))) ?_)
  first | (refine Hd.yv (y_load1 ag3 rfl (Rd.pt1 pkk (by (first | rfl)))) ?_) | (refine Hd.yv (y_load1 ag3 rfl (Rd.seg1 pkk (by (first | rfl)))) ?_) | (refine Hd.yv (y_loadR1 ag3 rfl (by (first | exact RdS.own pkk)) (by (first | rfl))) ?_)
  first | (refine Hd.yv (y_eqlT rfl rfl) ?_) | (refine Hd.yv (y_eql rfl rfl) ?_)
  refine Hd.yv (y_assign rfl) ?_
  refine Hd.nil ?_
  refine Hd.slots [(3, _)] ⟨rfl, trivial⟩ ?_
  refine Hd.toK hK2 ?_
  refine Hd.ret ?_
  clear hK1 hK2
  exact Hd.ret1 rfl () (by first | rfl | (simp only [*]; done) | (simp [*]; done)) (Ent.sep enn)
set_option maxHeartbeats 2000000 in
theorem idx_ct (L : List SP) (ad : Option Addr) (n cap : Nat) (b : Nat) (id : Int) (pre post : List It) (x : It) (hn : (pre ++ x :: post).length = n) (hb : n ≤ 1000000) (hx : x.id = id) (hp : ∀ y ∈ pre, y.id ≠ id) : Ct Try.prog 74 #[.slice ad n cap, .func (.func 75) #[] #[.pointer (some ⟨b, 0, none⟩)]] (pt b [.int .i64 id] 3 :: OwI ad n cap (pre ++ x :: post) :: L) (fun _ : Unit => .int .i64 (pre.length : Int)) (fun _ : Unit => pt b [.int .i64 id] 3 :: OwI ad n cap (pre ++ x :: post) :: L) := by
  refine Ct.of (vs := [.slice ad n cap, .func (.func 75) #[] #[.pointer (some ⟨b, 0, none⟩)]]) Try.func74 rfl rfl [(0, .slice ad n cap), (1, .func (.func 75) #[] #[.pointer (some ⟨b, 0, none⟩)])] (by repeat (first | exact trivial | refine ⟨rfl, ?_⟩)) ?_
  intro E
  show Hd E 19 _ _ _ _
  have hpn : pre.length < n := by rw [← hn, List.length_append, List.length_cons]; omega
  refine Hd.seq (fun K1 hK1 => ?_)
  refine Hd.region ?_
  refine Hd.yv (y_assign rfl) ?_
  refine Hd.nil ?_
  refine Hd.slots [(0, _), (1, _)] ⟨rfl, rfl, trivial⟩ ?_
  refine Hd.toK hK1 ?_
  refine Hd.seq (fun K2 hK2 => ?_)
  refine Hd.seq (fun K3 hK3 => ?_)
  refine Hd.region ?_
  refine Hd.yv (y_move rfl) ?_
  refine Hd.yv (y_len Try.underlying77 rfl) ?_
  refine Hd.yv (y_move rfl) ?_
  refine Hd.nil ?_
  refine Hd.slots [(0, _), (1, _), (7, _), (8, _)] ⟨rfl, rfl, rfl, rfl, trivial⟩ ?_
  refine Hd.toK hK3 ?_
  refine Hd.block ?_
  refine Hd.loopK (ι := Nat) [(0, _), (1, _), (7, _)] (fun i => [(8, .int .i64 (i : Int))]) (fun i => pu (i ≤ pre.length) :: pt b [.int .i64 id] 3 :: OwI ad n cap (pre ++ x :: post) :: L) (fun i => n - i) 0 (by repeat (first | exact trivial | refine ⟨rfl, ?_⟩)) (by repeat (first | exact trivial | refine ⟨rfl, ?_⟩)) (Ent.sep (.pure (by first | omega | (simp; done) | (simp; omega) | exact ⟨by simp, by simp⟩) enn)) ?_
  intro i
  try dsimp only
  refine Hd.pure (fun hp0 => ?_)
  try dsimp only at hp0
  refine Hd.seq (fun K4 hK4 => ?_)
  refine Hd.region ?_
  refine Hd.yv (y_lss rfl rfl) ?_
  refine Hd.nil ?_
  refine Hd.slots [(0, _), (1, _), (7, _), (8, _), (9, _)] ⟨rfl, rfl, rfl, rfl, rfl, trivial⟩ ?_
  refine Hd.toK hK4 ?_
  refine Hd.seq (fun K5 hK5 => ?_)
  refine Hd.cond rfl (fun hc0 => ?_) (fun hc0 => ?_)
  ·
    try simp only [decide_eq_true_eq, decide_eq_false_iff_not, Bool.and_eq_true, Bool.or_eq_true, Bool.and_eq_false_iff, Bool.or_eq_false_iff, Bool.not_eq_true', Bool.not_eq_false', Bool.not_eq_true, Bool.not_eq_false, Int.not_lt, Int.not_le, Decidable.not_not, ne_eq] at hc0
    have hgi : (pre ++ x :: post)[i]? = some (g (pre ++ x :: post) i) := g_at (by omega)
    refine Hd.skip ?_
    refine Hd.toK hK5 ?_
    refine Hd.seq (fun K6 hK6 => ?_)
    refine Hd.block ?_
    refine Hd.seq (fun K7 hK7 => ?_)
    refine Hd.region ?_
    refine Hd.yv (y_move rfl) ?_
    refine Hd.yv (y_assign rfl) ?_
    refine Hd.nil ?_
    refine Hd.slots [(0, _), (1, _), (5, _), (7, _), (8, _)] ⟨rfl, rfl, rfl, rfl, rfl, trivial⟩ ?_
    refine Hd.toK hK7 ?_
    refine Hd.seq (fun K8 hK8 => ?_)
    refine Hd.region ?_
    refine Hd.yv (y_move rfl) ?_
    refine Hd.yv (y_move rfl) ?_
    refine Hd.yv (y_move rfl) ?_
    first | (refine Hd.yv (y_idxS Try.underlying77 sz69 rfl rfl (by first | omega | decide)) ?_) | (refine Hd.yv (y_idxR Try.underlying77 sz69 rfl rfl (by first | omega | decide) (by (first | exact RdS.own pkk))) ?_)
    refine Hd.yv (y_loadRn (vs := [_, _, _]) ag69 rfl (RdS.own pkk) (flat_cells Hp.encI 3 (fun _ => rfl) hgi) (by exact sz69) (by simp)) ?_
    refine Hd.callvE (vs := [_]) (cap := [_]) rfl rfl (by kernel_rfl) (placef_ct _ b id (g (pre ++ x :: post) i)) (Ent.sep enn) ?_
    intro _
    refine Hd.nil ?_
    refine Hd.slots [(0, _), (1, _), (5, _), (7, _), (8, _), (16, _)] ⟨rfl, rfl, rfl, rfl, rfl, rfl, trivial⟩ ?_
    refine Hd.toK hK8 ?_
    refine Hd.cond rfl (fun hc1 => ?_) (fun hc1 => ?_)
    ·
      try simp only [decide_eq_true_eq, decide_eq_false_iff_not, Bool.and_eq_true, Bool.or_eq_true, Bool.and_eq_false_iff, Bool.or_eq_false_iff, Bool.not_eq_true', Bool.not_eq_false', Bool.not_eq_true, Bool.not_eq_false, Int.not_lt, Int.not_le, Decidable.not_not, ne_eq] at hc1
      refine Hd.seq (fun K9 hK9 => ?_)
      refine Hd.region ?_
      refine Hd.yv (y_move rfl) ?_
      refine Hd.yv (y_assign rfl) ?_
      refine Hd.nil ?_
      refine Hd.slots [(4, _)] ⟨rfl, trivial⟩ ?_
      refine Hd.toK hK9 ?_
      refine Hd.ret ?_
      refine Hd.inBret ?_
      refine Hd.thenRet ?_
      refine Hd.thenRet ?_
      refine Hd.inBret ?_
      refine Hd.thenRet ?_
      clear hK1 hK2 hK3 hK4 hK5 hK6 hK7 hK8 hK9
      have hi : i = pre.length := by
        refine Decidable.byContradiction fun hne => hp (g (pre ++ x :: post) i) ?_ hc1
        rw [List.getElem?_append_left (by omega)] at hgi
        exact List.mem_of_getElem? hgi
      exact Hd.ret1 rfl () (by rw [← hi]; rfl) (Ent.sep enn)
    ·
      try simp only [decide_eq_true_eq, decide_eq_false_iff_not, Bool.and_eq_true, Bool.or_eq_true, Bool.and_eq_false_iff, Bool.or_eq_false_iff, Bool.not_eq_true', Bool.not_eq_false', Bool.not_eq_true, Bool.not_eq_false, Int.not_lt, Int.not_le, Decidable.not_not, ne_eq] at hc1
      refine Hd.skip ?_
      refine Hd.inB ?_
      refine Hd.toK hK6 ?_
      refine Hd.region ?_
      first | (refine Hd.yv (y_addn rfl rfl (by simp only [InK]; omega)) ?_) | (refine Hd.yv (y_add rfl rfl) ?_)
      refine Hd.yv (y_move rfl) ?_
      refine Hd.nil ?_
      refine Hd.slots [(0, _), (1, _), (7, _), (8, _)] ⟨rfl, rfl, rfl, rfl, trivial⟩ ?_
      clear hK1 hK2 hK3 hK4 hK5 hK6 hK7 hK8
      refine Hd.thenN ?_
      have hi : i ≠ pre.length := by
        rintro rfl
        rw [List.getElem?_append_right (Nat.le_refl _), Nat.sub_self] at hgi
        have := Option.some.inj hgi
        rw [← this] at hc1; exact hc1 hx
      exact Hd.again (i + 1) (by first | omega | (simp only; omega) | (simp; omega)) (by repeat (first | exact trivial | refine ⟨rfl, ?_⟩)) (Ent.sep (.pure (by first | omega | (simp; done) | (simp; omega) | (dsimp only; omega)) enn))
  ·
    try simp only [decide_eq_true_eq, decide_eq_false_iff_not, Bool.and_eq_true, Bool.or_eq_true, Bool.and_eq_false_iff, Bool.or_eq_false_iff, Bool.not_eq_true', Bool.not_eq_false', Bool.not_eq_true, Bool.not_eq_false, Int.not_lt, Int.not_le, Decidable.not_not, ne_eq] at hc0
    exact absurd hc0 (by omega)
set_option maxHeartbeats 2000000 in
theorem place_ct (L : List SP) (r : QR) (id : Int) (pre post : List It) (x : It) (hl : r.l = pre ++ x :: post) (hb : r.l.length ≤ 1000000) (hx : x.id = id) (hp : ∀ y ∈ pre, y.id ≠ id) : Ct Try.prog 61 #[.pointer (some ⟨r.b, 0, none⟩), .int .i64 id] (qb r :: qo r :: L) (fun _ : Unit => .int .i64 (pre.length : Int)) (fun _ : Unit => qb r :: qo r :: L) := by
  refine Ct.of (vs := [.pointer (some ⟨r.b, 0, none⟩), .int .i64 id]) Try.func61 rfl rfl [(0, .pointer (some ⟨r.b, 0, none⟩)), (1, .int .i64 id)] (by repeat (first | exact trivial | refine ⟨rfl, ?_⟩)) ?_
  intro E
  show Hd E 11 _ _ _ _
  obtain ⟨rb, rad, rcp, raf, rl⟩ := r
  dsimp only at hl hb
  subst hl
  refine Hd.seq (fun K1 hK1 => ?_)
  refine Hd.region ?_
  refine Hd.box rfl rfl (fun b3 => ?_)
  refine Hd.yv (y_assign rfl) ?_
  refine Hd.nil ?_
  refine Hd.slots [(0, _), (3, _)] ⟨rfl, rfl, trivial⟩ ?_
  refine Hd.toK hK1 ?_
  refine Hd.seq (fun K2 hK2 => ?_)
  refine Hd.region ?_
  refine Hd.yv (y_move rfl) ?_
  refine Hd.yv (y_nilp rfl) ?_
  first | (refine Hd.yv (y_field' (q := 1) (ft := 77) Try.underlying90 rfl sz77 rfl rfl) ?_) | (refine Hd.yv (y_fieldR (q := 1) (ft := 77) Try.underlying90 rfl sz77 rfl rfl) ?_)
  first | (refine Hd.yv (y_load1 ag77 rfl (Rd.pt1 pkk (by (first | rfl)))) ?_) | (refine Hd.yv (y_load1 ag77 rfl (Rd.seg1 pkk (by (first | rfl)))) ?_) | (refine Hd.yv (y_loadR1 ag77 rfl (by (first | exact RdS.own pkk)) (by (first | rfl))) ?_)
  refine Hd.yv (y_mkf (fv := []) (cv := [_]) rfl rfl) ?_
  refine Hd.callE rfl fk74 (idx_ct _ rad (pre ++ x :: post).length rcp b3 id pre post x rfl hb hx hp) (Ent.sep enn) ?_
  intro _
  refine Hd.yv (y_assign rfl) ?_
  refine Hd.nil ?_
  refine Hd.slots [(4, _)] ⟨rfl, trivial⟩ ?_
  refine Hd.toK hK2 ?_
  refine Hd.ret ?_
  clear hK1 hK2
  exact Hd.ret1 rfl () (by first | rfl | (simp only [*]; done) | (simp [*]; done)) (Ent.sep enn)
set_option maxHeartbeats 2000000 in
theorem del_ct (L : List SP) (ad : Option Addr) (n cap : Nat) (pre post : List It) (x : It) (hn : (pre ++ x :: post).length = n) (hb : n ≤ 1000000) : Ct Try.prog 64 #[.slice ad n cap, .int .i64 (pre.length : Int), .int .i64 ((pre.length + 1 : Nat) : Int)] (OwI ad n cap (pre ++ x :: post) :: L) (fun _ : Unit => .slice ad (n - 1) cap) (fun _ : Unit => OwI ad (n - 1) cap (pre ++ post) :: L) := by
  refine Ct.of (vs := [.slice ad n cap, .int .i64 (pre.length : Int), .int .i64 ((pre.length + 1 : Nat) : Int)]) Try.func64 rfl rfl [(0, .slice ad n cap), (1, .int .i64 (pre.length : Int)), (2, .int .i64 ((pre.length + 1 : Nat) : Int))] (by repeat (first | exact trivial | refine ⟨rfl, ?_⟩)) ?_
  intro E
  show Hd E 33 _ _ _ _
  have hpn : pre.length < n := by rw [← hn, List.length_append, List.length_cons]; omega
  refine Hd.ownCap (e := 69) (ad := ad) (m := n) (cap := cap) pkk (fun hcap => ?_)
  have hm : pre.length + (n - (pre.length + 1)) = n - 1 := by omega
  have hl3 : ((pre ++ x :: post).flatMap Hp.encI).length = n * 3 := by rw [Hp.flat_len, hn]
  have hus : ((pre ++ x :: post).flatMap Hp.encI).take (pre.length * 3) ++ ((pre ++ x :: post).flatMap Hp.encI).drop ((pre.length + 1) * 3) = (pre ++ post).flatMap Hp.encI := by
    have e1 : (pre ++ x :: post).flatMap Hp.encI = pre.flatMap Hp.encI ++ (Hp.encI x ++ post.flatMap Hp.encI) := by rw [List.flatMap_append, List.flatMap_cons]
    have e2 : (pre.flatMap Hp.encI).length = pre.length * 3 := Hp.flat_len _
    rw [e1, List.take_left' e2, show (pre.length + 1) * 3 = (pre.flatMap Hp.encI ++ Hp.encI x).length by rw [List.length_append, e2]; show _ = _ + 3; omega, ← List.append_assoc, List.drop_left, List.flatMap_append]
  refine Hd.seq (fun K1 hK1 => ?_)
  refine Hd.region ?_
  refine Hd.yv (y_assign rfl) ?_
  refine Hd.nil ?_
  refine Hd.slots [(0, _), (1, _), (2, _)] ⟨rfl, rfl, rfl, trivial⟩ ?_
  refine Hd.toK hK1 ?_
  refine Hd.seq (fun K2 hK2 => ?_)
  refine Hd.region ?_
  refine Hd.yv (y_move rfl) ?_
  refine Hd.yv (y_move rfl) ?_
  refine Hd.yv (y_move rfl) ?_
  refine Hd.yv (y_move rfl) ?_
  refine Hd.yv (y_len Try.underlying77 rfl) ?_
  first | (refine Hd.yv (y_slo_oooN Try.underlying77 sz69 rfl rfl rfl rfl (by first | omega | (simp; done) | decide) (by first | omega | (simp; done) | decide) (by first | omega | (simp; done) | decide)) ?_) | (refine Hd.yv (y_slo_ooo Try.underlying77 sz69 rfl rfl rfl rfl (by first | omega | (simp; done) | decide) (by first | omega | (simp; done) | decide) (by first | omega | (simp; done) | decide) (by first | omega | (simp; done) | decide)) ?_)
  refine Hd.nil ?_
  refine Hd.slots [(0, _), (1, _), (2, _)] ⟨rfl, rfl, rfl, trivial⟩ ?_
  refine Hd.toK hK2 ?_
  refine Hd.seq (fun K3 hK3 => ?_)
  refine Hd.seq (fun K4 hK4 => ?_)
  refine Hd.region ?_
  refine Hd.yv (y_move rfl) ?_
  refine Hd.yv (y_move rfl) ?_
  refine Hd.yv (y_to (v' := .bool false) (y_eql rfl rfl) (congrArg Value.bool (decide_eq_false (by omega)))) ?_
  refine Hd.nil ?_
  refine Hd.slots [(0, _), (1, _), (2, _), (16, _)] ⟨rfl, rfl, rfl, rfl, trivial⟩ ?_
  refine Hd.toK hK4 ?_
  refine Hd.condF rfl ?_
  refine Hd.skip ?_
  refine Hd.toK hK3 ?_
  refine Hd.seq (fun K5 hK5 => ?_)
  refine Hd.region ?_
  refine Hd.yv (y_move rfl) ?_
  refine Hd.yv (y_len Try.underlying77 rfl) ?_
  refine Hd.yv (y_assign rfl) ?_
  refine Hd.nil ?_
  refine Hd.slots [(0, _), (1, _), (2, _), (7, _)] ⟨rfl, rfl, rfl, rfl, trivial⟩ ?_
  refine Hd.toK hK5 ?_
  refine Hd.seq (fun K6 hK6 => ?_)
  refine Hd.tail 6 mixed (by kernel_rfl) ?_
  simp only [List.take, List.drop]
  refine Ht.yv (y_move rfl) ?_
  refine Ht.yv (y_move rfl) ?_
  first | (refine Ht.yv (y_slo_xoxN Try.underlying77 sz69 rfl rfl (by first | omega | (simp; done) | decide)) ?_) | (refine Ht.yv (y_slo_xox Try.underlying77 sz69 rfl rfl (by first | omega | (simp; done) | decide) (by first | omega | (simp; done) | decide)) ?_)
  refine Ht.yv (y_move rfl) ?_
  refine Ht.yv (y_move rfl) ?_
  first | (refine Ht.yv (y_slo_oxxN Try.underlying77 sz69 rfl rfl (by first | omega | (simp; done) | decide)) ?_) | (refine Ht.yv (y_slo_oxx Try.underlying77 sz69 rfl rfl (by first | omega | (simp; done) | decide) (by first | omega | (simp; done) | decide)) ?_)
  refine Ht.nil ?_
  refine Hd.appendMove Try.underlying77 ty69 rfl rfl rfl pkk (show pre.length ≤ pre.length + 1 by omega) (by omega) (by intro u hu; obtain ⟨y, _, hy⟩ := List.mem_flatMap.1 hu; exact encI_one y u hy) ?_
  refine Hd.yv (y_assign rfl) ?_
  refine Hd.nil ?_
  refine Hd.slots [(0, _), (7, _)] ⟨rfl, rfl, trivial⟩ ?_
  refine Hd.toK hK6 ?_
  refine Hd.seq (fun K7 hK7 => ?_)
  rw [hm, hus]
  refine Hd.region ?_
  refine Hd.yv (y_move rfl) ?_
  refine Hd.yv (y_move rfl) ?_
  refine Hd.yv (y_len Try.underlying77 rfl) ?_
  refine Hd.yv (y_move rfl) ?_
  first | (refine Hd.yv (y_slo_ooxN Try.underlying77 sz69 rfl rfl rfl (by first | omega | (simp; done) | decide) (by first | omega | (simp; done) | decide)) ?_) | (refine Hd.yv (y_slo_oox Try.underlying77 sz69 rfl rfl rfl (by first | omega | (simp; done) | decide) (by first | omega | (simp; done) | decide) (by first | omega | (simp; done) | decide)) ?_)
  refine Hd.clearTail (sz := 3) Try.underlying77 zr69 rfl rfl rfl pkk (by omega) ?_
  refine Hd.nil ?_
  refine Hd.slots [(0, _)] ⟨rfl, trivial⟩ ?_
  refine Hd.toK hK7 ?_
  refine Hd.seq (fun K8 hK8 => ?_)
  refine Hd.region ?_
  refine Hd.yv (y_move rfl) ?_
  refine Hd.yv (y_assign rfl) ?_
  refine Hd.nil ?_
  refine Hd.slots [(6, _)] ⟨rfl, trivial⟩ ?_
  refine Hd.toK hK8 ?_
  refine Hd.ret ?_
  clear hK1 hK2 hK3 hK4 hK5 hK6 hK7 hK8
  have e3 : ((pre ++ post).flatMap Hp.encI).length = (n - 1) * 3 := by rw [Hp.flat_len]; simp at hn ⊢; omega
  exact Hd.ret1 rfl () rfl (Ent.sep (.eq pkk (own_eq3 rfl rfl (List.take_left' e3)) enn))
set_option maxHeartbeats 2000000 in
theorem new_ct (L : List SP) : Ct Try.prog 33 #[] (L) (fun o : Nat => .pointer (some ⟨o, 0, none⟩)) (fun o : Nat => CoA o [] [] 0 :: L) := by
  refine Ct.of (vs := []) Try.func33 rfl rfl [] (by repeat (first | exact trivial | refine ⟨rfl, ?_⟩)) ?_
  intro E
  show Hd E 5 _ _ _ _
  refine Hd.seq (fun K1 hK1 => ?_)
  refine Hd.region ?_
  refine Hd.yv (y_assign rfl) ?_
  refine Hd.nil ?_
  refine Hd.slots [] trivial ?_
  refine Hd.toK hK1 ?_
  refine Hd.seq (fun K2 hK2 => ?_)
  refine Hd.region ?_
  refine Hd.callE rfl fk49 (Hp.new_ct _) (Ent.sep enn) ?_
  intro h
  refine Hd.makeMap .i64 (fun b2 => ?_)
  refine Hd.yv (y_build (vs := [(0, _), (2, _)]) rfl (by first | exact bd33_3 .. | kernel_rfl)) ?_
  refine Hd.box rfl rfl (fun b4 => ?_)
  refine Hd.yv (y_assign rfl) ?_
  refine Hd.nil ?_
  refine Hd.slots [(0, _)] ⟨rfl, trivial⟩ ?_
  refine Hd.toK hK2 ?_
  refine Hd.ret ?_
  clear hK1 hK2
  exact Hd.ret1 rfl b4 rfl (fun k s => Ent.sep (.ex ⟨h, b2, none, 0, [], [], fun _ => none⟩ (.pure ⟨Ok.nil, rfl⟩ (.eq pkk (pt_eq (by rfl)) (.pick pkk (.ownNil (.ex 0 (.pick pkk enn))))))) k (qs_nil s))
set_option maxHeartbeats 2000000 in
theorem cut_ct (L : List SP) (o : Nat) (qs : List Q) (s : List It) (nx : Int) (hs : s.length < 999900) (id : Int) : Ct Try.prog 45 #[.pointer (some ⟨o, 0, none⟩), .int .i64 id] (CoA o qs s nx :: L) (fun _ : Unit => .bool (findI id s).isSome) (fun _ : Unit => CoA o (cutQ id qs) (remI id s) nx :: L) := by
  refine Ct.of (vs := [.pointer (some ⟨o, 0, none⟩), .int .i64 id]) Try.func45 rfl rfl [(0, .pointer (some ⟨o, 0, none⟩)), (1, .int .i64 id)] (by repeat (first | exact trivial | refine ⟨rfl, ?_⟩)) ?_
  intro E
  show Hd E 65 _ _ _ _
  refine Hd.exs .here ?_
  intro c
  simp only [List.cons_append, List.nil_append]
  refine Hd.pure (fun hq => ?_)
  obtain ⟨hok, hrs⟩ := hq
  refine Hd.hpF (b := c.h) (s := c.hs) pkk (fun hH => ?_)
  have hln := hok.len_le hH
  have hql := hok.ql
  have hrl : c.rs.length = qs.length := by rw [← hrs, List.length_map]
  refine Hd.seq (fun K1 hK1 => ?_)
  refine Hd.region ?_
  refine Hd.yv (y_assign rfl) ?_
  refine Hd.nil ?_
  refine Hd.slots [(0, _), (1, _)] ⟨rfl, rfl, trivial⟩ ?_
  refine Hd.toK hK1 ?_
  refine Hd.seq (fun K2 hK2 => ?_)
  refine Hd.seq (fun K3 hK3 => ?_)
  refine Hd.region ?_
  refine Hd.yv (y_move rfl) ?_
  refine Hd.callE rfl fk50 (none_ct _ o c.h c.mb c.qad qs.length c.qcap nx) (Ent.sep enn) ?_
  intro _
  refine Hd.yv (y_move rfl) ?_
  refine Hd.yg rfl rfl (y_move rfl) ?_
  refine Hd.yg rfl rfl (y_lss rfl rfl) ?_
  first | (refine Hd.yv (y_pickT rfl rfl) ?_) | (refine Hd.yv (y_pickF rfl rfl) ?_) | (refine Hd.yv (y_pickb rfl rfl rfl) ?_) | (refine Hd.yv (y_pick rfl rfl rfl) ?_)
  refine Hd.nil ?_
  refine Hd.slots [(0, _), (1, _), (14, _)] ⟨rfl, rfl, rfl, trivial⟩ ?_
  refine Hd.toK hK3 ?_
  refine Hd.cond rfl (fun hc0 => ?_) (fun hc0 => ?_)
  ·
    try simp only [decide_eq_true_eq, decide_eq_false_iff_not, Bool.and_eq_true, Bool.or_eq_true, Bool.and_eq_false_iff, Bool.or_eq_false_iff, Bool.not_eq_true', Bool.not_eq_false', Bool.not_eq_true, Bool.not_eq_false, Int.not_lt, Int.not_le, Decidable.not_not, ne_eq] at hc0
    refine Hd.seq (fun K4 hK4 => ?_)
    refine Hd.region ?_
    refine Hd.yv (y_assign rfl) ?_
    refine Hd.nil ?_
    refine Hd.slots [(4, _)] ⟨rfl, trivial⟩ ?_
    refine Hd.toK hK4 ?_
    refine Hd.ret ?_
    refine Hd.thenRet ?_
    clear hK1 hK2 hK3 hK4
    have hid : id < 0 := hc0
    obtain ⟨h1, h2⟩ := hok.neg hid
    have h3 : remI id s = s := remI_no fun x hx e => by have := hok.nn x hx; omega
    rw [h1, h3, hok.cut_no h2]
    exact Hd.ret1 rfl () rfl (Ent.sep (.ex c (.pure ⟨hok, hrs⟩ enn)))
  ·
    try simp only [decide_eq_true_eq, decide_eq_false_iff_not, Bool.and_eq_true, Bool.or_eq_true, Bool.and_eq_false_iff, Bool.or_eq_false_iff, Bool.not_eq_true', Bool.not_eq_false', Bool.not_eq_true, Bool.not_eq_false, Int.not_lt, Int.not_le, Decidable.not_not, ne_eq] at hc0
    have hid : 0 ≤ id := by omega
    refine Hd.exs (f := fun m : Nat => [mp c.mb .i64 c.f m]) pkk ?_
    intro m
    simp only [List.cons_append, List.nil_append]
    refine Hd.skip ?_
    refine Hd.toK hK2 ?_
    refine Hd.seq (fun K5 hK5 => ?_)
    refine Hd.region ?_
    refine Hd.yv (y_move rfl) ?_
    refine Hd.yv (y_nilp rfl) ?_
    first | (refine Hd.yv (y_field' (q := 2) (ft := 83) Try.underlying86 rfl sz83 rfl rfl) ?_) | (refine Hd.yv (y_fieldR (q := 2) (ft := 83) Try.underlying86 rfl sz83 rfl rfl) ?_)
    first | (refine Hd.yv (y_load1 ag83 rfl (Rd.pt1 pkk (by (first | exact pv_at hr | rfl)))) ?_) | (refine Hd.yv (y_load1 ag83 rfl (Rd.seg1 pkk (by (first | exact pv_at hr | rfl)))) ?_) | (refine Hd.yv (y_loadR1 ag83 rfl (by (first | exact RdS.own pkk)) (by (first | exact pv_at hr | rfl))) ?_)
    refine Hd.yv (y_move rfl) ?_
    refine Hd.yv (y_lookup2 mapt83 rfl rfl pkk) ?_
    refine Hd.yv (y_move rfl) ?_
    refine Hd.yv (y_extract rfl rfl) ?_
    refine Hd.yv (y_extract rfl rfl) ?_
    refine Hd.yv (y_assign rfl) ?_
    refine Hd.yv (y_assign rfl) ?_
    refine Hd.nil ?_
    refine Hd.slots [(0, _), (1, _), (5, _), (6, _)] ⟨rfl, rfl, rfl, rfl, trivial⟩ ?_
    refine Hd.toK hK5 ?_
    refine Hd.seq (fun K6 hK6 => ?_)
    refine Hd.seq (fun K7 hK7 => ?_)
    refine Hd.region ?_
    refine Hd.yv (y_move rfl) ?_
    refine Hd.yv (y_not rfl) ?_
    refine Hd.nil ?_
    refine Hd.slots [(0, _), (1, _), (5, _), (25, _)] ⟨rfl, rfl, rfl, rfl, trivial⟩ ?_
    refine Hd.toK hK7 ?_
    refine Hd.cond rfl (fun hc1 => ?_) (fun hc1 => ?_)
    ·
      try simp only [decide_eq_true_eq, decide_eq_false_iff_not, Bool.and_eq_true, Bool.or_eq_true, Bool.and_eq_false_iff, Bool.or_eq_false_iff, Bool.not_eq_true', Bool.not_eq_false', Bool.not_eq_true, Bool.not_eq_false, Int.not_lt, Int.not_le, Decidable.not_not, ne_eq] at hc1
      have hf : c.f id = none := by cases h : c.f id with | none => rfl | some v => rw [h] at hc1; simp at hc1
      refine Hd.seq (fun K8 hK8 => ?_)
      refine Hd.region ?_
      refine Hd.yv (y_move rfl) ?_
      refine Hd.yv (y_nilp rfl) ?_
      first | (refine Hd.yv (y_field' (q := 0) (ft := 81) Try.underlying86 rfl sz81 rfl rfl) ?_) | (refine Hd.yv (y_fieldR (q := 0) (ft := 81) Try.underlying86 rfl sz81 rfl rfl) ?_)
      first | (refine Hd.yv (y_load1 ag81 rfl (Rd.pt1 pkk (by (first | exact pv_at hr | rfl)))) ?_) | (refine Hd.yv (y_load1 ag81 rfl (Rd.seg1 pkk (by (first | exact pv_at hr | rfl)))) ?_) | (refine Hd.yv (y_loadR1 ag81 rfl (by (first | exact RdS.own pkk)) (by (first | exact pv_at hr | rfl))) ?_)
      refine Hd.yv (y_move rfl) ?_
      refine Hd.callE rfl fk63 (take_ct _ c.h c.hs id) (Ent.sep enn) ?_
      intro _
      rw [hok.hfind hH hid hf]
      refine Hd.yv (y_move rfl) ?_
      refine Hd.yv (y_extract rfl rfl) ?_
      refine Hd.yv (y_extract rfl rfl) ?_
      refine Hd.yv (y_assign rfl) ?_
      refine Hd.nil ?_
      refine Hd.slots [(6, _)] ⟨rfl, trivial⟩ ?_
      refine Hd.toK hK8 ?_
      refine Hd.seq (fun K9 hK9 => ?_)
      refine Hd.region ?_
      refine Hd.yv (y_move rfl) ?_
      refine Hd.yv (y_assign rfl) ?_
      refine Hd.nil ?_
      refine Hd.slots [(4, _)] ⟨rfl, trivial⟩ ?_
      refine Hd.toK hK9 ?_
      refine Hd.ret ?_
      refine Hd.thenRet ?_
      clear hK1 hK2 hK3 hK5 hK6 hK7 hK8 hK9
      rw [hok.cut_no hf]
      exact Hd.ret1 rfl () (by cases findI id s <;> rfl) (Ent.sep (.ex { c with hs := remI id c.hs } (.pure ⟨hok.cutB hid hf, hrs⟩ (.pick pkk (.pick pkk (.pick pkk (.ex m enn)))))))
    ·
      try simp only [decide_eq_true_eq, decide_eq_false_iff_not, Bool.and_eq_true, Bool.or_eq_true, Bool.and_eq_false_iff, Bool.or_eq_false_iff, Bool.not_eq_true', Bool.not_eq_false', Bool.not_eq_true, Bool.not_eq_false, Int.not_lt, Int.not_le, Decidable.not_not, ne_eq] at hc1
      obtain ⟨j, q, x, hj, hx, hxid, hf, hfi⟩ := hok.inq (id := id) hc1
      rw [hf]
      obtain ⟨r, hr, hrq⟩ : ∃ r, c.rs[j]? = some r ∧ r.q = q := by
        rw [← hrs, List.getElem?_map] at hj
        cases h : c.rs[j]? with
        | none => rw [h] at hj; cases hj
        | some r => rw [h] at hj; exact ⟨r, rfl, Option.some.inj hj⟩
      subst hrq
      have hjl : j < c.rs.length := (List.getElem?_eq_some_iff.1 hr).1
      obtain ⟨pre, post, hl⟩ := List.append_of_mem (show x ∈ r.l from hx)
      have hnd : (r.l.map It.id).Nodup := hok.q_nd (List.mem_of_getElem? hj)
      have hpre : ∀ y ∈ pre, y.id ≠ id := fun y hy e => by
        rw [hl, List.map_append, List.nodup_append] at hnd
        exact hnd.2.2 y.id (List.mem_map.2 ⟨y, hy, rfl⟩) x.id (List.mem_map.2 ⟨x, List.mem_cons_self, rfl⟩) (by rw [e, hxid])
      have hrem : remI id r.l = pre ++ post := by
        have hpost : ∀ y ∈ post, y.id ≠ id := fun y hy e => by
          rw [hl, List.map_append, List.nodup_append, List.map_cons, List.nodup_cons] at hnd
          exact hnd.2.1.1 (List.mem_map.2 ⟨y, hy, by rw [e, hxid]⟩)
        rw [hl]; unfold remI
        rw [List.filter_append, List.filter_cons, if_neg (by simp [hxid])]
        rw [show pre.filter _ = pre from remI_no hpre, show post.filter _ = post from remI_no hpost]
      have hrl1 : r.l.length ≤ 1000000 := Nat.le_trans (hok.q_len (List.mem_of_getElem? hj)) (by omega)
      obtain ⟨rb, rad, rcp, raf, rl⟩ := r
      dsimp only at hl hrem hrl1
      subst hl
      have hpl : pre.length + 1 ≤ 1000000 := by rw [List.length_append, List.length_cons] at hrl1; omega
      have hlen1 : (pre ++ x :: post).length - 1 = (pre ++ post).length := by simp
      have hset : (c.rs.set j ⟨rb, rad, rcp, raf, pre ++ post⟩).map QR.q = cutQ id qs := by
        rw [set_q, hrs, hok.cut_at hj hf]; show _ = qs.set j ⟨raf, remI id (pre ++ x :: post)⟩; rw [hrem]; rfl
      have hokA := hok.cutA hj hf
      refine Hd.qOut pkk hr ?_
      refine Hd.skip ?_
      refine Hd.toK hK6 ?_
      refine Hd.seq (fun K10 hK10 => ?_)
      refine Hd.region ?_
      refine Hd.yv (y_move rfl) ?_
      refine Hd.yv (y_nilp rfl) ?_
      first | (refine Hd.yv (y_field' (q := 1) (ft := 84) Try.underlying86 rfl sz84 rfl rfl) ?_) | (refine Hd.yv (y_fieldR (q := 1) (ft := 84) Try.underlying86 rfl sz84 rfl rfl) ?_)
      first | (refine Hd.yv (y_load1 ag84 rfl (Rd.pt1 pkk (by (first | exact pv_at hr | rfl)))) ?_) | (refine Hd.yv (y_load1 ag84 rfl (Rd.seg1 pkk (by (first | exact pv_at hr | rfl)))) ?_) | (refine Hd.yv (y_loadR1 ag84 rfl (by (first | exact RdS.own pkk)) (by (first | exact pv_at hr | rfl))) ?_)
      refine Hd.yv (y_move rfl) ?_
      first | (refine Hd.yv (y_idxS Try.underlying84 sz88 rfl rfl (by first | omega | decide)) ?_) | (refine Hd.yv (y_idxR Try.underlying84 sz88 rfl rfl (by first | omega | decide) (by (first | exact RdS.own pkk))) ?_)
      first | (refine Hd.yv (y_load1 ag88 rfl (Rd.pt1 pkk (by (first | exact pv_at hr | rfl)))) ?_) | (refine Hd.yv (y_load1 ag88 rfl (Rd.seg1 pkk (by (first | exact pv_at hr | rfl)))) ?_) | (refine Hd.yv (y_loadR1 ag88 rfl (by (first | exact RdS.own pkk)) (by (first | exact pv_at hr | rfl))) ?_)
      refine Hd.yv (y_assign rfl) ?_
      refine Hd.nil ?_
      refine Hd.slots [(0, _), (1, _), (5, _), (7, _)] ⟨rfl, rfl, rfl, rfl, trivial⟩ ?_
      refine Hd.toK hK10 ?_
      refine Hd.seq (fun K11 hK11 => ?_)
      refine Hd.region ?_
      refine Hd.yv (y_move rfl) ?_
      refine Hd.yv (y_move rfl) ?_
      refine Hd.callE rfl fk61 (place_ct _ ⟨rb, rad, rcp, raf, pre ++ x :: post⟩ id pre post x rfl hrl1 hxid hpre) (Ent.sep enn) ?_
      intro _
      refine Hd.yv (y_assign rfl) ?_
      refine Hd.nil ?_
      refine Hd.slots [(0, _), (1, _), (5, _), (7, _), (8, _)] ⟨rfl, rfl, rfl, rfl, rfl, trivial⟩ ?_
      refine Hd.toK hK11 ?_
      refine Hd.seq (fun K12 hK12 => ?_)
      refine Hd.region ?_
      refine Hd.yv (y_move rfl) ?_
      refine Hd.yv (y_move rfl) ?_
      refine Hd.yv (y_nilp rfl) ?_
      first | (refine Hd.yv (y_field' (q := 1) (ft := 77) Try.underlying90 rfl sz77 rfl rfl) ?_) | (refine Hd.yv (y_fieldR (q := 1) (ft := 77) Try.underlying90 rfl sz77 rfl rfl) ?_)
      first | (refine Hd.yv (y_load1 ag77 rfl (Rd.pt1 pkk (by (first | exact pv_at hr | rfl)))) ?_) | (refine Hd.yv (y_load1 ag77 rfl (Rd.seg1 pkk (by (first | exact pv_at hr | rfl)))) ?_) | (refine Hd.yv (y_loadR1 ag77 rfl (by (first | exact RdS.own pkk)) (by (first | exact pv_at hr | rfl))) ?_)
      refine Hd.yv (y_move rfl) ?_
      refine Hd.yv (y_move rfl) ?_
      first | (refine Hd.yv (y_to (v' := .int .i64 ((pre.length + 1 : Nat) : Int)) (y_addn rfl rfl (by simp only [InK]; omega)) (by (congr 1))) ?_) | (refine Hd.yv (y_to (v' := .int .i64 ((pre.length + 1 : Nat) : Int)) (y_add rfl rfl) (by (congr 1))) ?_)
      refine Hd.callE rfl fk64 (del_ct _ rad (pre ++ x :: post).length rcp pre post x rfl hrl1) (Ent.sep enn) ?_
      intro _
      refine Hd.yv (y_nilp rfl) ?_
      first | (refine Hd.yv (y_field' (q := 1) (ft := 77) Try.underlying90 rfl sz77 rfl rfl) ?_) | (refine Hd.yv (y_fieldR (q := 1) (ft := 77) Try.underlying90 rfl sz77 rfl rfl) ?_)
      first | (refine Hd.store1 sz77 rfl rfl rfl pkk (by first | decide | (simp; done) | (simp; omega)) ?_) | (refine Hd.storeG1 sz77 rfl rfl rfl pkk (by first | decide | (simp; done) | (simp; omega)) ?_) | (refine Hd.storeO1 sz77 rfl rfl rfl pkk (by first | omega | (simp; done) | (simp; omega)) ?_)
      try simp only [List.set_cons_zero, List.set_cons_succ]
      refine Hd.nil ?_
      rw [hlen1]
      refine Hd.qIn ⟨rb, rad, rcp, raf, pre ++ post⟩ hjl (Ent.sep (.pick pkk enn)) ?_
      refine Hd.slots [(0, _), (1, _), (5, _)] ⟨rfl, rfl, rfl, trivial⟩ ?_
      refine Hd.toK hK12 ?_
      refine Hd.seq (fun K13 hK13 => ?_)
      refine Hd.region ?_
      refine Hd.yv (y_move rfl) ?_
      refine Hd.yv (y_nilp rfl) ?_
      first | (refine Hd.yv (y_field' (q := 2) (ft := 83) Try.underlying86 rfl sz83 rfl rfl) ?_) | (refine Hd.yv (y_fieldR (q := 2) (ft := 83) Try.underlying86 rfl sz83 rfl rfl) ?_)
      first | (refine Hd.yv (y_load1 ag83 rfl (Rd.pt1 pkk (by (first | exact pv_at hr | rfl)))) ?_) | (refine Hd.yv (y_load1 ag83 rfl (Rd.seg1 pkk (by (first | exact pv_at hr | rfl)))) ?_) | (refine Hd.yv (y_loadR1 ag83 rfl (by (first | exact RdS.own pkk)) (by (first | exact pv_at hr | rfl))) ?_)
      refine Hd.yv (y_move rfl) ?_
      refine Hd.mapDelete0 mapt83 rfl rfl pkk ?_
      refine Hd.nil ?_
      refine Hd.heap (CmL o qs.length nx ⟨c.h, c.mb, c.qad, c.qcap, c.rs.set j ⟨rb, rad, rcp, raf, pre ++ post⟩, c.hs, delF c.f id⟩ L) (Ent.sep (.pick pkk (.pick pkk (.eq pkk (own_eq3 rfl rfl (set_pv (r' := ⟨rb, rad, rcp, raf, pre ++ post⟩) hr rfl).symm) (.ex _ enn))))) ?_
      refine Hd.slots [(0, _), (5, _)] ⟨rfl, rfl, trivial⟩ ?_
      refine Hd.toK hK13 ?_
      refine Hd.seq (fun K14 hK14 => ?_)
      refine Hd.region ?_
      refine Hd.yv (y_move rfl) ?_
      refine Hd.yv (y_move rfl) ?_
      refine Hd.callE rfl fk54 (show_ct L o qs.length nx ⟨c.h, c.mb, c.qad, c.qcap, c.rs.set j ⟨rb, rad, rcp, raf, pre ++ post⟩, c.hs, delF c.f id⟩ j ⟨rb, rad, rcp, raf, pre ++ post⟩ (List.getElem?_set_self hjl) (by show (c.rs.set j _).length = _; rw [List.length_set]; exact hrl) hql (by show c.hs.length < _; omega)) (Ent.sep enn) ?_
      intro _
      refine Hd.nil ?_
      refine Hd.slots [] trivial ?_
      refine Hd.toK hK14 ?_
      refine Hd.seq (fun K15 hK15 => ?_)
      refine Hd.region ?_
      refine Hd.yv (y_assign rfl) ?_
      refine Hd.nil ?_
      refine Hd.slots [(4, _)] ⟨rfl, trivial⟩ ?_
      refine Hd.toK hK15 ?_
      refine Hd.ret ?_
      clear hK1 hK2 hK3 hK5 hK6 hK7 hK10 hK11 hK12 hK13 hK14 hK15
      rw [hfi]
      have hokA' : Ok (cutQ id qs) (remI id s) nx (shw j (pre ++ post) c.hs) (delF c.f id) := by
        have h := hokA
        rw [← hok.cut_at hj hf] at h
        have e : remI id (QR.q ⟨rb, rad, rcp, raf, pre ++ x :: post⟩).l = pre ++ post := hrem
        rwa [e] at h
      have hlq : (cutQ id qs).length = qs.length := by unfold cutQ; rw [List.length_map]
      exact Hd.ret1 rfl () rfl (Ent.sep (.ex ⟨c.h, c.mb, c.qad, c.qcap, c.rs.set j ⟨rb, rad, rcp, raf, pre ++ post⟩, shw j (pre ++ post) c.hs, delF c.f id⟩ (.pure ⟨hokA', hset⟩ (by rw [hlq]; exact enn))))
end Cm
end Go.Proofs.Ytdjoofidicoimaa
