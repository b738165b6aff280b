/-
  Sets of deadlines: Find, Top, Heap.
-/
import Derived.Test.YtdjoofidicoimaaCo6
namespace Go.Proofs.Ytdjoofidicoimaa
set_option linter.unusedSimpArgs false
set_option linter.unusedVariables false
set_option linter.unnecessarySimpa false
open Go.RX Fx Hp
namespace Cm
set_option maxRecDepth 8000
theorem Ok.row {qs : List Q} {s hs : List It} {nx : Int} {f : MF} (_h : Ok qs s nx hs f) {rs : List QR} (hrs : rs.map QR.q = qs) {j : Nat} {q : Q} (hj : qs[j]? = some q) : ∃ r, rs[j]? = some r ∧ r.q = q := by
  rw [← hrs, List.getElem?_map] at hj
  cases h : rs[j]? with
  | none => rw [h] at hj; cases hj
  | some r => rw [h] at hj; exact ⟨r, rfl, Option.some.inj hj⟩
theorem Ok.split {qs : List Q} {s hs : List It} {nx : Int} {f : MF} (h : Ok qs s nx hs f) {q : Q} (hq : q ∈ qs) {x : It} (hx : x ∈ q.l) : ∃ pre post, q.l = pre ++ x :: post ∧ ∀ y ∈ pre, y.id ≠ x.id := by
  obtain ⟨pre, post, e⟩ := List.append_of_mem hx
  have hnd := h.q_nd hq
  refine ⟨pre, post, e, fun y hy e2 => ?_⟩
  rw [e, List.map_append, List.nodup_append] at hnd
  exact hnd.2.2 y.id (List.mem_map.2 ⟨y, hy, rfl⟩) x.id (List.mem_map.2 ⟨x, List.mem_cons_self, rfl⟩) e2
set_option maxHeartbeats 2000000 in
theorem cfind_ct (L : List SP) (o : Nat) (qs : List Q) (s : List It) (nx : Int) (id : Int) : Ct Try.prog 44 #[.pointer (some ⟨o, 0, none⟩), .int .i64 id] (CoA o qs s nx :: L) (fun _ : Unit => .tuple #[aggI (findV (findI id s)).1, .bool (findV (findI id s)).2]) (fun _ : Unit => CoA o qs s nx :: L) := by
  refine Ct.of (vs := [.pointer (some ⟨o, 0, none⟩), .int .i64 id]) Try.func44 rfl rfl [(0, .pointer (some ⟨o, 0, none⟩)), (1, .int .i64 id)] (by repeat (first | exact trivial | refine ⟨rfl, ?_⟩)) ?_
  intro E
  show Hd E 50 _ _ _ _
  refine Hd.exs .here ?_
  intro c
  simp only [List.cons_append, List.nil_append]
  refine Hd.pure (fun hq => ?_)
  obtain ⟨hok, hrs⟩ := hq
  refine Hd.hpF (b := c.h) (s := c.hs) pkk (fun hH => ?_)
  have hrl : c.rs.length = qs.length := by rw [← hrs, List.length_map]
  have hsl := hok.hF.len
  have hql := hok.ql
  refine Hd.seq (fun K1 hK1 => ?_)
  refine Hd.region ?_
  refine Hd.alloc zr69 (fun b4 => ?_)
  refine Hd.yv (y_assign rfl) ?_
  refine Hd.nil ?_
  refine Hd.slots [(0, _), (1, _), (4, _)] ⟨rfl, rfl, rfl, trivial⟩ ?_
  refine Hd.toK hK1 ?_
  refine Hd.seq (fun K2 hK2 => ?_)
  refine Hd.seq (fun K3 hK3 => ?_)
  refine Hd.region ?_
  refine Hd.yv (y_move rfl) ?_
  refine Hd.callE rfl fk50 (none_ct _ o c.h c.mb c.qad qs.length c.qcap nx) (Ent.sep enn) ?_
  intro _
  refine Hd.yv (y_move rfl) ?_
  refine Hd.yg rfl rfl (y_move rfl) ?_
  refine Hd.yg rfl rfl (y_lss rfl rfl) ?_
  first | (refine Hd.yv (y_pickT rfl rfl) ?_) | (refine Hd.yv (y_pickF rfl rfl) ?_) | (refine Hd.yv (y_pickb rfl rfl rfl) ?_) | (refine Hd.yv (y_pick rfl rfl rfl) ?_)
  refine Hd.nil ?_
  refine Hd.slots [(0, _), (1, _), (4, _), (14, _)] ⟨rfl, rfl, rfl, rfl, trivial⟩ ?_
  refine Hd.toK hK3 ?_
  refine Hd.cond rfl (fun hc0 => ?_) (fun hc0 => ?_)
  ·
    try simp only [decide_eq_true_eq, decide_eq_false_iff_not, Bool.and_eq_true, Bool.or_eq_true, Bool.and_eq_false_iff, Bool.or_eq_false_iff, Bool.not_eq_true', Bool.not_eq_false', Bool.not_eq_true, Bool.not_eq_false, Int.not_lt, Int.not_le, Decidable.not_not, ne_eq] at hc0
    refine Hd.seq (fun K4 hK4 => ?_)
    refine Hd.region ?_
    refine Hd.yv (y_build (vs := []) rfl (by first | exact bd44_15 .. | kernel_rfl)) ?_
    refine Hd.storeA (us := Hp.encI z0) sz69 rfl rfl rfl (encI_one z0) pkk (by exact rfl) ?_
    refine Hd.yv (y_assign rfl) ?_
    refine Hd.nil ?_
    refine Hd.slots [(4, _), (5, _)] ⟨rfl, rfl, trivial⟩ ?_
    refine Hd.toK hK4 ?_
    refine Hd.ret ?_
    refine Hd.thenRet ?_
    clear hK1 hK2 hK3 hK4
    rw [(hok.neg hc0).1]
    exact Hd.retCT rfl () ag69 rfl rfl (Rd.pt (us := Hp.encI z0) pkk (fun j v e => by rw [Nat.zero_add]; exact e)) (by exact sz69) rfl (Ent.sep (.ex c (.pure ⟨hok, hrs⟩ enn)))
  ·
    try simp only [decide_eq_true_eq, decide_eq_false_iff_not, Bool.and_eq_true, Bool.or_eq_true, Bool.and_eq_false_iff, Bool.or_eq_false_iff, Bool.not_eq_true', Bool.not_eq_false', Bool.not_eq_true, Bool.not_eq_false, Int.not_lt, Int.not_le, Decidable.not_not, ne_eq] at hc0
    have hid : 0 ≤ id := by omega
    refine Hd.exs (f := fun m : Nat => [mp c.mb .i64 c.f m]) pkk ?_
    intro m
    simp only [List.cons_append, List.nil_append]
    refine Hd.skip ?_
    refine Hd.toK hK2 ?_
    refine Hd.seq (fun K5 hK5 => ?_)
    refine Hd.seq (fun K6 hK6 => ?_)
    refine Hd.region ?_
    refine Hd.yv (y_move rfl) ?_
    refine Hd.yv (y_nilp rfl) ?_
    first | (refine Hd.yv (y_field' (q := 2) (ft := 83) Try.underlying86 rfl sz83 rfl rfl) ?_) | (refine Hd.yv (y_fieldR (q := 2) (ft := 83) Try.underlying86 rfl sz83 rfl rfl) ?_)
    first | (refine Hd.yv (y_load1 ag83 rfl (Rd.pt1 pkk (by (first | exact pv_at hr | rfl)))) ?_) | (refine Hd.yv (y_load1 ag83 rfl (Rd.seg1 pkk (by (first | exact pv_at hr | rfl)))) ?_) | (refine Hd.yv (y_loadR1 ag83 rfl (by (first | exact RdS.own pkk)) (by (first | exact pv_at hr | rfl))) ?_)
    refine Hd.yv (y_move rfl) ?_
    refine Hd.yv (y_lookup2 mapt83 rfl rfl pkk) ?_
    refine Hd.yv (y_move rfl) ?_
    refine Hd.yv (y_extract rfl rfl) ?_
    refine Hd.yv (y_extract rfl rfl) ?_
    refine Hd.yv (y_assign rfl) ?_
    refine Hd.yv (y_assign rfl) ?_
    refine Hd.nil ?_
    refine Hd.slots [(0, _), (1, _), (4, _), (6, _), (7, _)] ⟨rfl, rfl, rfl, rfl, rfl, trivial⟩ ?_
    refine Hd.toK hK6 ?_
    refine Hd.seq (fun K7 hK7 => ?_)
    refine Hd.region ?_
    refine Hd.yv (y_move rfl) ?_
    refine Hd.nil ?_
    refine Hd.slots [(0, _), (1, _), (4, _), (6, _), (25, _)] ⟨rfl, rfl, rfl, rfl, rfl, trivial⟩ ?_
    refine Hd.toK hK7 ?_
    refine Hd.cond rfl (fun hc1 => ?_) (fun hc1 => ?_)
    ·
      try simp only [decide_eq_true_eq, decide_eq_false_iff_not, Bool.and_eq_true, Bool.or_eq_true, Bool.and_eq_false_iff, Bool.or_eq_false_iff, Bool.not_eq_true', Bool.not_eq_false', Bool.not_eq_true, Bool.not_eq_false, Int.not_lt, Int.not_le, Decidable.not_not, ne_eq] at hc1
      obtain ⟨j, q, x, hj, hx, hxid, hf, hfi⟩ := hok.inq (id := id) hc1
      rw [hf]
      obtain ⟨r, hr, hrq⟩ := hok.row hrs hj
      subst hrq
      have hjl : j < c.rs.length := (List.getElem?_eq_some_iff.1 hr).1
      obtain ⟨pre, post, hl, hpre⟩ := hok.split (List.mem_of_getElem? hj) hx
      rw [hxid] at hpre
      have hrl1 : r.l.length ≤ 1000000 := Nat.le_trans (hok.q_len (List.mem_of_getElem? hj)) hsl
      have hgx : r.l[pre.length]? = some x := by rw [show r.l = pre ++ x :: post from hl, List.getElem?_append_right (Nat.le_refl _), Nat.sub_self]; rfl
      have hpl : pre.length < r.l.length := (List.getElem?_eq_some_iff.1 hgx).1
      refine Hd.seq (fun K8 hK8 => ?_)
      refine Hd.region ?_
      refine Hd.yv (y_move rfl) ?_
      refine Hd.yv (y_nilp rfl) ?_
      first | (refine Hd.yv (y_field' (q := 1) (ft := 84) Try.underlying86 rfl sz84 rfl rfl) ?_) | (refine Hd.yv (y_fieldR (q := 1) (ft := 84) Try.underlying86 rfl sz84 rfl rfl) ?_)
      first | (refine Hd.yv (y_load1 ag84 rfl (Rd.pt1 pkk (by (first | exact pv_at hr | rfl)))) ?_) | (refine Hd.yv (y_load1 ag84 rfl (Rd.seg1 pkk (by (first | exact pv_at hr | rfl)))) ?_) | (refine Hd.yv (y_loadR1 ag84 rfl (by (first | exact RdS.own pkk)) (by (first | exact pv_at hr | rfl))) ?_)
      refine Hd.yv (y_move rfl) ?_
      first | (refine Hd.yv (y_idxS Try.underlying84 sz88 rfl rfl (by first | omega | decide)) ?_) | (refine Hd.yv (y_idxR Try.underlying84 sz88 rfl rfl (by first | omega | decide) (by (first | exact RdS.own pkk))) ?_)
      first | (refine Hd.yv (y_load1 ag88 rfl (Rd.pt1 pkk (by (first | exact pv_at hr | rfl)))) ?_) | (refine Hd.yv (y_load1 ag88 rfl (Rd.seg1 pkk (by (first | exact pv_at hr | rfl)))) ?_) | (refine Hd.yv (y_loadR1 ag88 rfl (by (first | exact RdS.own pkk)) (by (first | exact pv_at hr | rfl))) ?_)
      refine Hd.yv (y_assign rfl) ?_
      refine Hd.nil ?_
      refine Hd.slots [(1, _), (4, _), (8, _)] ⟨rfl, rfl, rfl, trivial⟩ ?_
      refine Hd.toK hK8 ?_
      refine Hd.seq (fun K9 hK9 => ?_)
      refine Hd.qOut pkk hr ?_
      refine Hd.drawsH ([qb r, qo r]) (fun j => !([9].contains j)) mixed ?_
      simp only [List.length, Nat.zero_add, Nat.reduceAdd]
      refine Hd.takeH 0 rfl (by kernel_rfl) (by kernel_rfl) (by kernel_rfl) (by kernel_rfl) (y_move rfl) (fun _ _ => rfl) (Ent.sep enn) ?_
      refine Hd.takeH 1 rfl (by kernel_rfl) (by kernel_rfl) (by kernel_rfl) (by kernel_rfl) (y_nilp rfl) (fun _ _ => rfl) (Ent.sep enn) ?_
      first | (refine Hd.takeH 2 rfl (by kernel_rfl) (by kernel_rfl) (by kernel_rfl) (by kernel_rfl) (y_field' (q := 1) (ft := 77) Try.underlying90 rfl sz77 rfl rfl) (fun _ _ => rfl) (Ent.sep enn) ?_) | (refine Hd.takeH 2 rfl (by kernel_rfl) (by kernel_rfl) (by kernel_rfl) (by kernel_rfl) (y_fieldR (q := 1) (ft := 77) Try.underlying90 rfl sz77 rfl rfl) (fun _ _ => rfl) (Ent.sep enn) ?_)
      first | (refine Hd.takeH 3 rfl (by kernel_rfl) (by kernel_rfl) (by kernel_rfl) (by kernel_rfl) (y_load1 ag77 rfl (Rd.pt1 pkk (by (first | exact pv_at hr | rfl)))) (fun _ _ => rfl) (Ent.sep enn) ?_) | (refine Hd.takeH 3 rfl (by kernel_rfl) (by kernel_rfl) (by kernel_rfl) (by kernel_rfl) (y_load1 ag77 rfl (Rd.seg1 pkk (by (first | exact pv_at hr | rfl)))) (fun _ _ => rfl) (Ent.sep enn) ?_) | (refine Hd.takeH 3 rfl (by kernel_rfl) (by kernel_rfl) (by kernel_rfl) (by kernel_rfl) (y_loadR1 ag77 rfl (by (first | exact RdS.own pkk)) (by (first | exact pv_at hr | rfl))) (fun _ _ => rfl) (Ent.sep enn) ?_)
      refine Hd.takeH 4 rfl (by kernel_rfl) (by kernel_rfl) (by kernel_rfl) (by kernel_rfl) (y_move rfl) (fun _ _ => rfl) (Ent.sep enn) ?_
      refine Hd.takeH 5 rfl (by kernel_rfl) (by kernel_rfl) (by kernel_rfl) (by kernel_rfl) (y_move rfl) (fun _ _ => rfl) (Ent.sep enn) ?_
      refine Hd.onlyH 6 rfl (by kernel_rfl) ?_
      refine Hd.callE rfl fk61 (place_ct _ r id pre post x hl hrl1 hxid hpre) (Ent.sep enn) ?_
      intro _
      refine Hd.nil ?_
      refine Hd.thenN ?_
      refine Hd.heldK (J := (fun j => !([9].contains j))) (i := 6) (Ent.sep enn) ?_
      first | (refine Hd.takeH 7 rfl (by kernel_rfl) (by kernel_rfl) (by kernel_rfl) (by kernel_rfl) (y_idxS Try.underlying77 sz69 rfl rfl (by first | omega | decide)) (fun _ _ => rfl) (Ent.sep enn) ?_) | (refine Hd.takeH 7 rfl (by kernel_rfl) (by kernel_rfl) (by kernel_rfl) (by kernel_rfl) (y_idxR Try.underlying77 sz69 rfl rfl (by first | omega | decide) (by (first | exact RdS.own pkk))) (fun _ _ => rfl) (Ent.sep enn) ?_)
      refine Hd.onlyH 8 rfl (by kernel_rfl) ?_
      refine Hd.yv (y_loadRn (vs := [_, _, _]) ag69 rfl (RdS.own pkk) (flat_cells Hp.encI 3 (fun _ => rfl) hgx) (by exact sz69) (by simp)) ?_
      refine Hd.nil ?_
      refine Hd.thenN ?_
      refine Hd.heldK (J := (fun j => !([9].contains j))) (i := 8) (Ent.sep enn) ?_
      refine Hd.onlyH 9 rfl (by kernel_rfl) ?_
      refine Hd.storeA (us := Hp.encI x) sz69 rfl rfl rfl (encI_one x) pkk (by exact rfl) ?_
      refine Hd.nil ?_
      refine Hd.thenN ?_
      refine Hd.heldN (J := (fun j => !([9].contains j))) (i := 9) rfl ?_
      refine Hd.onlyH 10 rfl (by kernel_rfl) ?_
      refine Hd.yv (y_assign rfl) ?_
      refine Hd.nil ?_
      refine Hd.thenN ?_
      refine Hd.heldK (J := (fun j => !([9].contains j))) (i := 10) (Ent.sep enn) ?_
      refine Hd.endH (by kernel_rfl) ?_
      refine Hd.slots [(4, _), (5, _)] ⟨rfl, rfl, trivial⟩ ?_
      refine Hd.toK hK9 ?_
      refine Hd.ret ?_
      refine Hd.thenRet ?_
      clear hK1 hK2 hK3 hK5 hK6 hK7 hK8 hK9
      refine Hd.qIn r hjl (Ent.sep enn) ?_
      rw [set_same hr, hfi]
      exact Hd.retCT rfl () ag69 rfl rfl (Rd.pt (us := Hp.encI x) pkk (fun j v e => by rw [Nat.zero_add]; exact e)) (by exact sz69) rfl (Ent.sep (.ex c (.pure ⟨hok, hrs⟩ (.pick pkk (.pick pkk (.pick pkk (.ex m enn)))))))
    ·
      try simp only [decide_eq_true_eq, decide_eq_false_iff_not, Bool.and_eq_true, Bool.or_eq_true, Bool.and_eq_false_iff, Bool.or_eq_false_iff, Bool.not_eq_true', Bool.not_eq_false', Bool.not_eq_true, Bool.not_eq_false, Int.not_lt, Int.not_le, Decidable.not_not, ne_eq] at hc1
      have hf : c.f id = none := by cases h : c.f id with | none => rfl | some v => rw [h] at hc1; simp at hc1
      refine Hd.skip ?_
      refine Hd.toK hK5 ?_
      refine Hd.seq (fun K10 hK10 => ?_)
      refine Hd.region ?_
      refine Hd.yv (y_move rfl) ?_
      refine Hd.yv (y_nilp rfl) ?_
      first | (refine Hd.yv (y_field' (q := 0) (ft := 81) Try.underlying86 rfl sz81 rfl rfl) ?_) | (refine Hd.yv (y_fieldR (q := 0) (ft := 81) Try.underlying86 rfl sz81 rfl rfl) ?_)
      first | (refine Hd.yv (y_load1 ag81 rfl (Rd.pt1 pkk (by (first | exact pv_at hr | rfl)))) ?_) | (refine Hd.yv (y_load1 ag81 rfl (Rd.seg1 pkk (by (first | exact pv_at hr | rfl)))) ?_) | (refine Hd.yv (y_loadR1 ag81 rfl (by (first | exact RdS.own pkk)) (by (first | exact pv_at hr | rfl))) ?_)
      refine Hd.yv (y_move rfl) ?_
      refine Hd.callE rfl fk62 (find_ct _ c.h c.hs id) (Ent.sep enn) ?_
      intro _
      rw [hok.hfind hH hid hf]
      refine Hd.yv (y_extract rfl rfl) ?_
      refine Hd.yv (y_extract rfl rfl) ?_
      refine Hd.storeA (us := Hp.encI (findV (findI id s)).1) sz69 rfl rfl rfl (encI_one _) pkk (by exact rfl) ?_
      refine Hd.yv (y_assign rfl) ?_
      refine Hd.nil ?_
      refine Hd.slots [(4, _), (5, _)] ⟨rfl, rfl, trivial⟩ ?_
      refine Hd.toK hK10 ?_
      refine Hd.ret ?_
      clear hK1 hK2 hK3 hK5 hK6 hK7 hK10
      exact Hd.retCT rfl () ag69 rfl rfl (Rd.pt (us := Hp.encI (findV (findI id s)).1) pkk (fun j v e => by rw [Nat.zero_add]; exact e)) (by exact sz69) rfl (Ent.sep (.ex c (.pure ⟨hok, hrs⟩ (.pick pkk (.pick pkk (.pick pkk (.ex m enn)))))))
set_option maxHeartbeats 2000000 in
theorem ctop_ct (L : List SP) (o : Nat) (qs : List Q) (s : List It) (nx : Int) : Ct Try.prog 38 #[.pointer (some ⟨o, 0, none⟩)] (CoA o qs s nx :: L) (fun _ : Unit => .tuple #[aggI (topI s).1, .bool (topI s).2]) (fun _ : Unit => CoA o qs s nx :: L) := by
  refine Ct.of (vs := [.pointer (some ⟨o, 0, none⟩)]) Try.func38 rfl rfl [(0, .pointer (some ⟨o, 0, none⟩))] (by repeat (first | exact trivial | refine ⟨rfl, ?_⟩)) ?_
  intro E
  show Hd E 39 _ _ _ _
  refine Hd.exs .here ?_
  intro c
  simp only [List.cons_append, List.nil_append]
  refine Hd.pure (fun hq => ?_)
  obtain ⟨hok, hrs⟩ := hq
  refine Hd.hpF (b := c.h) (s := c.hs) pkk (fun hH => ?_)
  have hrl : c.rs.length = qs.length := by rw [← hrs, List.length_map]
  have hsl := hok.hF.len
  have hql := hok.ql
  have htop := hok.top hH
  refine Hd.seq (fun K1 hK1 => ?_)
  refine Hd.region ?_
  refine Hd.alloc zr69 (fun b2 => ?_)
  refine Hd.yv (y_assign rfl) ?_
  refine Hd.nil ?_
  refine Hd.slots [(0, _), (2, _)] ⟨rfl, rfl, trivial⟩ ?_
  refine Hd.toK hK1 ?_
  refine Hd.seq (fun K2 hK2 => ?_)
  refine Hd.seq (fun K3 hK3 => ?_)
  refine Hd.region ?_
  refine Hd.yv (y_move rfl) ?_
  refine Hd.callE rfl fk50 (none_ct _ o c.h c.mb c.qad qs.length c.qcap nx) (Ent.sep enn) ?_
  intro _
  refine Hd.nil ?_
  refine Hd.slots [(0, _), (2, _), (7, _)] ⟨rfl, rfl, rfl, trivial⟩ ?_
  refine Hd.toK hK3 ?_
  refine Hd.condF rfl ?_
  refine Hd.skip ?_
  refine Hd.toK hK2 ?_
  refine Hd.seq (fun K4 hK4 => ?_)
  refine Hd.region ?_
  refine Hd.yv (y_move rfl) ?_
  refine Hd.yv (y_nilp rfl) ?_
  first | (refine Hd.yv (y_field' (q := 0) (ft := 81) Try.underlying86 rfl sz81 rfl rfl) ?_) | (refine Hd.yv (y_fieldR (q := 0) (ft := 81) Try.underlying86 rfl sz81 rfl rfl) ?_)
  first | (refine Hd.yv (y_load1 ag81 rfl (Rd.pt1 pkk (by (first | exact pv_at hr | rfl)))) ?_) | (refine Hd.yv (y_load1 ag81 rfl (Rd.seg1 pkk (by (first | exact pv_at hr | rfl)))) ?_) | (refine Hd.yv (y_loadR1 ag81 rfl (by (first | exact RdS.own pkk)) (by (first | exact pv_at hr | rfl))) ?_)
  refine Hd.callE rfl fk56 (top_ct _ c.h c.hs) (Ent.sep enn) ?_
  intro _
  refine Hd.yv (y_move rfl) ?_
  refine Hd.yv (y_extract rfl rfl) ?_
  refine Hd.yv (y_extract rfl rfl) ?_
  refine Hd.alloc zr69 (fun b4 => ?_)
  refine Hd.storeA (us := Hp.encI (topI c.hs).1) sz69 rfl rfl rfl (encI_one _) pkk (by exact rfl) ?_
  refine Hd.yv (y_assign rfl) ?_
  refine Hd.nil ?_
  refine Hd.slots [(0, _), (2, _), (4, _), (5, _)] ⟨rfl, rfl, rfl, rfl, trivial⟩ ?_
  refine Hd.toK hK4 ?_
  refine Hd.seq (fun K5 hK5 => ?_)
  refine Hd.seq (fun K6 hK6 => ?_)
  refine Hd.region ?_
  refine Hd.yv (y_move rfl) ?_
  refine Hd.yv (y_move rfl) ?_
  apply Hd.andg 4 18 22 [(0, _), (2, _), (4, _), (5, _)] rfl ⟨rfl, rfl, rfl, rfl, trivial⟩
  · intro hg4_18
    try simp only [decide_eq_true_eq, decide_eq_false_iff_not, Bool.and_eq_true, Bool.or_eq_true, Bool.and_eq_false_iff, Bool.or_eq_false_iff, Bool.not_eq_true', Bool.not_eq_false', Bool.not_eq_true, Bool.not_eq_false, Int.not_lt, Int.not_le, Decidable.not_not, ne_eq] at hg4_18
    simp only [List.take]
    first | (refine Hd.yg rfl rfl (y_field' (q := 0) (ft := 3) Try.underlying69 rfl sz3 rfl rfl) ?_) | (refine Hd.yg rfl rfl (y_fieldR (q := 0) (ft := 3) Try.underlying69 rfl sz3 rfl rfl) ?_)
    first | (refine Hd.yg rfl rfl (y_load1 ag3 rfl (Rd.pt1 pkk (by (first | exact pv_at hr | rfl)))) ?_) | (refine Hd.yg rfl rfl (y_load1 ag3 rfl (Rd.seg1 pkk (by (first | exact pv_at hr | rfl)))) ?_) | (refine Hd.yg rfl rfl (y_loadR1 ag3 rfl (by (first | exact RdS.own pkk)) (by (first | exact pv_at hr | rfl))) ?_)
    refine Hd.yg rfl rfl (y_lss rfl rfl) ?_
    first | (refine Hd.yv (y_pickT rfl rfl) ?_) | (refine Hd.yv (y_pickF rfl rfl) ?_) | (refine Hd.yv (y_pickb rfl rfl rfl) ?_) | (refine Hd.yv (y_pick rfl rfl rfl) ?_)
    refine Hd.nil ?_
    exact Hd.mend (by repeat (first | exact trivial | refine ⟨rfl, ?_⟩)) (Ent.sep enn)
  · intro hg4_18
    try simp only [decide_eq_true_eq, decide_eq_false_iff_not, Bool.and_eq_true, Bool.or_eq_true, Bool.and_eq_false_iff, Bool.or_eq_false_iff, Bool.not_eq_true', Bool.not_eq_false', Bool.not_eq_true, Bool.not_eq_false, Int.not_lt, Int.not_le, Decidable.not_not, ne_eq] at hg4_18
    simp only [List.take]
    refine Hd.ng rfl rfl rfl ?_
    refine Hd.ng rfl rfl rfl ?_
    refine Hd.ng rfl rfl rfl ?_
    first | (refine Hd.yv (y_pickT rfl rfl) ?_) | (refine Hd.yv (y_pickF rfl rfl) ?_) | (refine Hd.yv (y_pickb rfl rfl rfl) ?_) | (refine Hd.yv (y_pick rfl rfl rfl) ?_)
    refine Hd.nil ?_
    exact Hd.mend (by repeat (first | exact trivial | refine ⟨rfl, ?_⟩)) (Ent.sep enn)
  simp only [List.drop]
  refine Hd.nil ?_
  refine Hd.slots [(0, _), (2, _), (4, _), (5, _), (22, _)] ⟨rfl, rfl, rfl, rfl, rfl, trivial⟩ ?_
  refine Hd.toK hK6 ?_
  refine Hd.cond rfl (fun hc1 => ?_) (fun hc1 => ?_)
  ·
    try simp only [decide_eq_true_eq, decide_eq_false_iff_not, Bool.and_eq_true, Bool.or_eq_true, Bool.and_eq_false_iff, Bool.or_eq_false_iff, Bool.not_eq_true', Bool.not_eq_false', Bool.not_eq_true, Bool.not_eq_false, Int.not_lt, Int.not_le, Decidable.not_not, ne_eq] at hc1
    obtain ⟨y, t, hye, x, r', hse, ⟨hy0, _⟩ | ⟨j, q, r2, hj, hql2, hye2⟩⟩ : ∃ y t, c.hs = y :: t ∧ ∃ x r, s = x :: r ∧ ((0 ≤ y.id ∧ y = x) ∨ ∃ (j : Nat) (q : Q) (r' : List It), qs[j]? = some q ∧ q.l = x :: r' ∧ y = sgn j x) := by
      rcases htop with ⟨h, _⟩ | h
      · rw [h] at hc1; exact absurd hc1.1 (by simp [topI])
      · exact h
    · rw [hye] at hc1; have := hc1.2; simp only [topI] at this; omega
    obtain ⟨r, hr, hrq⟩ := hok.row hrs hj
    subst hrq
    have hjl : j < c.rs.length := (List.getElem?_eq_some_iff.1 hr).1
    have hid : (topI c.hs).1.id = -1 - (j : Int) := by rw [hye]; show y.id = _; rw [hye2]; rfl
    have hg0 : r.l[0]? = some x := by rw [show r.l = x :: r2 from hql2]; rfl
    have h0l : 0 < r.l.length := (List.getElem?_eq_some_iff.1 hg0).1
    have hts : topI s = (x, true) := by rw [hse]; rfl
    have htc : (topI c.hs).2 = true := by rw [hye]; rfl
    refine Hd.qOut pkk hr ?_
    refine Hd.drawsH ([CmH o c.h c.mb c.qad qs.length c.qcap nx, pt b4 (Hp.encI (topI c.hs).1) 69, QP c.qad qs.length c.qcap c.rs, qb r, qo r]) (fun j => !([14].contains j)) mixed ?_
    simp only [List.length, Nat.zero_add, Nat.reduceAdd]
    refine Hd.takeH 0 rfl (by kernel_rfl) (by kernel_rfl) (by kernel_rfl) (by kernel_rfl) (y_move rfl) (fun _ _ => rfl) (Ent.sep enn) ?_
    refine Hd.takeH 1 rfl (by kernel_rfl) (by kernel_rfl) (by kernel_rfl) (by kernel_rfl) (y_nilp rfl) (fun _ _ => rfl) (Ent.sep enn) ?_
    first | (refine Hd.takeH 2 rfl (by kernel_rfl) (by kernel_rfl) (by kernel_rfl) (by kernel_rfl) (y_field' (q := 1) (ft := 84) Try.underlying86 rfl sz84 rfl rfl) (fun _ _ => rfl) (Ent.sep enn) ?_) | (refine Hd.takeH 2 rfl (by kernel_rfl) (by kernel_rfl) (by kernel_rfl) (by kernel_rfl) (y_fieldR (q := 1) (ft := 84) Try.underlying86 rfl sz84 rfl rfl) (fun _ _ => rfl) (Ent.sep enn) ?_)
    first | (refine Hd.takeH 3 rfl (by kernel_rfl) (by kernel_rfl) (by kernel_rfl) (by kernel_rfl) (y_load1 ag84 rfl (Rd.pt1 pkk (by (first | exact pv_at hr | rfl)))) (fun _ _ => rfl) (Ent.sep enn) ?_) | (refine Hd.takeH 3 rfl (by kernel_rfl) (by kernel_rfl) (by kernel_rfl) (by kernel_rfl) (y_load1 ag84 rfl (Rd.seg1 pkk (by (first | exact pv_at hr | rfl)))) (fun _ _ => rfl) (Ent.sep enn) ?_) | (refine Hd.takeH 3 rfl (by kernel_rfl) (by kernel_rfl) (by kernel_rfl) (by kernel_rfl) (y_loadR1 ag84 rfl (by (first | exact RdS.own pkk)) (by (first | exact pv_at hr | rfl))) (fun _ _ => rfl) (Ent.sep enn) ?_)
    first | (refine Hd.takeH 4 rfl (by kernel_rfl) (by kernel_rfl) (by kernel_rfl) (by kernel_rfl) (y_field' (q := 0) (ft := 3) Try.underlying69 rfl sz3 rfl rfl) (fun _ _ => rfl) (Ent.sep enn) ?_) | (refine Hd.takeH 4 rfl (by kernel_rfl) (by kernel_rfl) (by kernel_rfl) (by kernel_rfl) (y_fieldR (q := 0) (ft := 3) Try.underlying69 rfl sz3 rfl rfl) (fun _ _ => rfl) (Ent.sep enn) ?_)
    first | (refine Hd.takeH 5 rfl (by kernel_rfl) (by kernel_rfl) (by kernel_rfl) (by kernel_rfl) (y_load1 ag3 rfl (Rd.pt1 pkk (by (first | exact pv_at hr | rfl)))) (fun _ _ => rfl) (Ent.sep enn) ?_) | (refine Hd.takeH 5 rfl (by kernel_rfl) (by kernel_rfl) (by kernel_rfl) (by kernel_rfl) (y_load1 ag3 rfl (Rd.seg1 pkk (by (first | exact pv_at hr | rfl)))) (fun _ _ => rfl) (Ent.sep enn) ?_) | (refine Hd.takeH 5 rfl (by kernel_rfl) (by kernel_rfl) (by kernel_rfl) (by kernel_rfl) (y_loadR1 ag3 rfl (by (first | exact RdS.own pkk)) (by (first | exact pv_at hr | rfl))) (fun _ _ => rfl) (Ent.sep enn) ?_)
    refine Hd.onlyH 6 rfl (by kernel_rfl) ?_
    refine Hd.callE rfl fk57 (sign_ct _ (topI c.hs).1.id (by rw [hid]; omega) (by rw [hid]; omega)) (Ent.sep enn) ?_
    intro _
    refine Hd.name (b := (j : Int)) 29 rfl (by rw [hid]; omega) ?_
    refine Hd.nil ?_
    refine Hd.thenN ?_
    refine Hd.heldK (J := (fun j => !([14].contains j))) (i := 6) (Ent.sep enn) ?_
    first | (refine Hd.takeH 7 rfl (by kernel_rfl) (by kernel_rfl) (by kernel_rfl) (by kernel_rfl) (y_idxS Try.underlying84 sz88 rfl rfl (by first | omega | decide)) (fun _ _ => rfl) (Ent.sep enn) ?_) | (refine Hd.takeH 7 rfl (by kernel_rfl) (by kernel_rfl) (by kernel_rfl) (by kernel_rfl) (y_idxR Try.underlying84 sz88 rfl rfl (by first | omega | decide) (by (first | exact RdS.own pkk))) (fun _ _ => rfl) (Ent.sep enn) ?_)
    first | (refine Hd.takeH 8 rfl (by kernel_rfl) (by kernel_rfl) (by kernel_rfl) (by kernel_rfl) (y_load1 ag88 rfl (Rd.pt1 pkk (by (first | exact pv_at hr | rfl)))) (fun _ _ => rfl) (Ent.sep enn) ?_) | (refine Hd.takeH 8 rfl (by kernel_rfl) (by kernel_rfl) (by kernel_rfl) (by kernel_rfl) (y_load1 ag88 rfl (Rd.seg1 pkk (by (first | exact pv_at hr | rfl)))) (fun _ _ => rfl) (Ent.sep enn) ?_) | (refine Hd.takeH 8 rfl (by kernel_rfl) (by kernel_rfl) (by kernel_rfl) (by kernel_rfl) (y_loadR1 ag88 rfl (by (first | exact RdS.own pkk)) (by (first | exact pv_at hr | rfl))) (fun _ _ => rfl) (Ent.sep enn) ?_)
    refine Hd.takeH 9 rfl (by kernel_rfl) (by kernel_rfl) (by kernel_rfl) (by kernel_rfl) (y_nilp rfl) (fun _ _ => rfl) (Ent.sep enn) ?_
    first | (refine Hd.takeH 10 rfl (by kernel_rfl) (by kernel_rfl) (by kernel_rfl) (by kernel_rfl) (y_field' (q := 1) (ft := 77) Try.underlying90 rfl sz77 rfl rfl) (fun _ _ => rfl) (Ent.sep enn) ?_) | (refine Hd.takeH 10 rfl (by kernel_rfl) (by kernel_rfl) (by kernel_rfl) (by kernel_rfl) (y_fieldR (q := 1) (ft := 77) Try.underlying90 rfl sz77 rfl rfl) (fun _ _ => rfl) (Ent.sep enn) ?_)
    first | (refine Hd.takeH 11 rfl (by kernel_rfl) (by kernel_rfl) (by kernel_rfl) (by kernel_rfl) (y_load1 ag77 rfl (Rd.pt1 pkk (by (first | exact pv_at hr | rfl)))) (fun _ _ => rfl) (Ent.sep enn) ?_) | (refine Hd.takeH 11 rfl (by kernel_rfl) (by kernel_rfl) (by kernel_rfl) (by kernel_rfl) (y_load1 ag77 rfl (Rd.seg1 pkk (by (first | exact pv_at hr | rfl)))) (fun _ _ => rfl) (Ent.sep enn) ?_) | (refine Hd.takeH 11 rfl (by kernel_rfl) (by kernel_rfl) (by kernel_rfl) (by kernel_rfl) (y_loadR1 ag77 rfl (by (first | exact RdS.own pkk)) (by (first | exact pv_at hr | rfl))) (fun _ _ => rfl) (Ent.sep enn) ?_)
    first | (refine Hd.takeH 12 rfl (by kernel_rfl) (by kernel_rfl) (by kernel_rfl) (by kernel_rfl) (y_idxS Try.underlying77 sz69 rfl rfl (by first | exact (show (0 : Nat) < _ by omega) | omega | decide)) (fun _ _ => rfl) (Ent.sep enn) ?_) | (refine Hd.takeH 12 rfl (by kernel_rfl) (by kernel_rfl) (by kernel_rfl) (by kernel_rfl) (y_idxR Try.underlying77 sz69 rfl rfl (by first | exact (show (0 : Nat) < _ by omega) | omega | decide) (by (first | exact RdS.own pkk))) (fun _ _ => rfl) (Ent.sep enn) ?_)
    refine Hd.onlyH 13 rfl (by kernel_rfl) ?_
    refine Hd.yv (y_loadRn (vs := [_, _, _]) ag69 rfl (RdS.own pkk) (by have h := flat_cells Hp.encI 3 (fun _ => rfl) hg0; rwa [Nat.zero_mul] at h ⊢) (by exact sz69) (by simp)) ?_
    refine Hd.nil ?_
    refine Hd.thenN ?_
    refine Hd.heldK (J := (fun j => !([14].contains j))) (i := 13) (Ent.sep enn) ?_
    refine Hd.onlyH 14 rfl (by kernel_rfl) ?_
    refine Hd.storeA (us := Hp.encI x) sz69 rfl rfl rfl (encI_one x) pkk (by exact rfl) ?_
    refine Hd.nil ?_
    refine Hd.thenN ?_
    refine Hd.heldN (J := (fun j => !([14].contains j))) (i := 14) rfl ?_
    refine Hd.endH (by kernel_rfl) ?_
    refine Hd.qIn r hjl (Ent.sep enn) ?_
    rw [set_same hr]
    refine Hd.slots [(2, _), (4, _), (5, _)] ⟨rfl, rfl, rfl, trivial⟩ ?_
    refine Hd.toK hK5 ?_
    refine Hd.seq (fun K7 hK7 => ?_)
    refine Hd.region ?_
    first | (refine Hd.yv (y_loadn (us := [_, _, _]) ag69 rfl (Rd.pt pkk (by (first | (intro j v e; rcases j with _|_|_|_|_|_|_|_|_|_|_|_|j <;> first | exact e | exact absurd e (by simp))))) (by exact sz69)) ?_) | (refine Hd.yv (y_loadn (us := [_, _, _]) ag69 rfl (Rd.seg pkk (by (first | (intro j v e; rcases j with _|_|_|_|_|_|_|_|_|_|_|_|j <;> first | exact e | exact absurd e (by simp))))) (by exact sz69)) ?_) | (refine Hd.yv (y_loadRn ag69 rfl (by (first | exact RdS.own pkk)) (by (first | (intro j v e; rcases j with _|_|_|_|_|_|_|_|_|_|_|_|j <;> first | exact e | exact absurd e (by simp)))) (by exact sz69) (by simp)) ?_)
    refine Hd.yv (y_move rfl) ?_
    first | refine Hd.storeA (us := Hp.encI x) sz69 rfl rfl rfl (encI_one x) pkk (by exact rfl) ?_ | refine Hd.storeA (us := Hp.encI (topI c.hs).1) sz69 rfl rfl rfl (encI_one _) pkk (by exact rfl) ?_
    refine Hd.yv (y_assign rfl) ?_
    refine Hd.nil ?_
    refine Hd.slots [(2, _), (3, _)] ⟨rfl, rfl, trivial⟩ ?_
    refine Hd.toK hK7 ?_
    refine Hd.ret ?_
    clear hK1 hK2 hK3 hK4 hK5 hK6 hK7
    rw [hts]
    refine Hd.retCT rfl () ag69 rfl rfl (Rd.pt (us := Hp.encI x) pkk (fun j v e => by rw [Nat.zero_add]; exact e)) (by exact sz69) (by rw [show (#[aggI (topI c.hs).1, Value.bool (topI c.hs).2] : Array Value)[1] = .bool true by rw [← htc]; rfl]) (Ent.sep (.ex c (.pure ⟨hok, hrs⟩ enn)))
  ·
    try simp only [decide_eq_true_eq, decide_eq_false_iff_not, Bool.and_eq_true, Bool.or_eq_true, Bool.and_eq_false_iff, Bool.or_eq_false_iff, Bool.not_eq_true', Bool.not_eq_false', Bool.not_eq_true, Bool.not_eq_false, Int.not_lt, Int.not_le, Decidable.not_not, ne_eq] at hc1
    have htc : topI c.hs = topI s := by
      rcases htop with ⟨h1, h2⟩ | ⟨y, t, hye, x, r', hse, ⟨_, hyx⟩ | ⟨j, q, r2, _, _, hye2⟩⟩
      · rw [h1, h2]
      · rw [hye, hse, hyx]; rfl
      · exfalso
        rw [hye] at hc1
        rcases hc1 with h | h
        · simp [topI] at h
        · simp only [topI] at h; rw [hye2, sgn_id] at h; omega
    refine Hd.skip ?_
    refine Hd.toK hK5 ?_
    refine Hd.seq (fun K8 hK8 => ?_)
    refine Hd.region ?_
    first | (refine Hd.yv (y_loadn (us := [_, _, _]) ag69 rfl (Rd.pt pkk (by (first | (intro j v e; rcases j with _|_|_|_|_|_|_|_|_|_|_|_|j <;> first | exact e | exact absurd e (by simp))))) (by exact sz69)) ?_) | (refine Hd.yv (y_loadn (us := [_, _, _]) ag69 rfl (Rd.seg pkk (by (first | (intro j v e; rcases j with _|_|_|_|_|_|_|_|_|_|_|_|j <;> first | exact e | exact absurd e (by simp))))) (by exact sz69)) ?_) | (refine Hd.yv (y_loadRn ag69 rfl (by (first | exact RdS.own pkk)) (by (first | (intro j v e; rcases j with _|_|_|_|_|_|_|_|_|_|_|_|j <;> first | exact e | exact absurd e (by simp)))) (by exact sz69) (by simp)) ?_)
    refine Hd.yv (y_move rfl) ?_
    first | refine Hd.storeA (us := Hp.encI x) sz69 rfl rfl rfl (encI_one x) pkk (by exact rfl) ?_ | refine Hd.storeA (us := Hp.encI (topI c.hs).1) sz69 rfl rfl rfl (encI_one _) pkk (by exact rfl) ?_
    refine Hd.yv (y_assign rfl) ?_
    refine Hd.nil ?_
    refine Hd.slots [(2, _), (3, _)] ⟨rfl, rfl, trivial⟩ ?_
    refine Hd.toK hK8 ?_
    refine Hd.ret ?_
    clear hK1 hK2 hK3 hK4 hK5 hK6 hK8
    rw [← htc]
    exact Hd.retCT rfl () ag69 rfl rfl (Rd.pt (us := Hp.encI (topI c.hs).1) pkk (fun j v e => by rw [Nat.zero_add]; exact e)) (by exact sz69) rfl (Ent.sep (.ex c (.pure ⟨hok, hrs⟩ enn)))

end Cm
end Go.Proofs.Ytdjoofidicoimaa
