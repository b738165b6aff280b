/-
  Chains: Add and Ahead.
-/
import Derived.Test.YtmpemhbfgbochaaBc2
namespace Go.Proofs.Ytmpemhbfgbochaa
set_option linter.unusedSimpArgs false
set_option linter.unusedVariables false
set_option linter.unnecessarySimpa false
open Go.RX Fx
namespace Bc
/-- a chain's cells, its slice of rows, its rows; it says that it has so many bytes -/
abbrev ChL (b o : Nat) (rs : List Row) (len : Int) : SP := RX.ex fun i : Option Addr × Nat => [seg b o [.slice i.1 rs.length i.2, .int .i64 len], own 39 1 i.1 rs.length i.2 (rs.map hdr), rows rs]
def Full (rs : List Row) : Prop := ∀ r ∈ rs, 0 < r.l.length
def Good (rs : List Row) : Prop := Full rs ∧ (flat rs).length ≤ 1048576
abbrev Ch (b o : Nat) (rs : List Row) : SP := ChL b o rs ((flat rs).length : Int)
theorem full_len {rs : List Row} (h : Full rs) : rs.length ≤ (flat rs).length := by
  induction rs with
  | nil => simp
  | cons r rs ih =>
    have h1 := h r (by simp)
    have h2 := ih (fun x hx => h x (List.mem_cons_of_mem _ hx))
    simp only [flat, List.flatMap_cons, List.length_append, List.length_cons] at *
    omega
theorem flat_app (a b : List Row) : flat (a ++ b) = flat a ++ flat b := by simp [flat]
theorem flat_one (r : Row) : flat [r] = r.l := by simp [flat]
theorem full_app {a b : List Row} (ha : Full a) (hb : Full b) : Full (a ++ b) := fun r hr => by
  rcases List.mem_append.1 hr with h | h
  · exact ha r h
  · exact hb r h
theorem full_one {r : Row} (h : 0 < r.l.length) : Full [r] := fun x hx => by simp at hx; subst hx; exact h
theorem mem_le {rs : List Row} {r : Row} (h : r ∈ rs) : r.l.length ≤ (flat rs).length := by
  induction rs with
  | nil => cases h
  | cons a rs ih =>
    simp only [flat, List.flatMap_cons, List.length_append]
    rcases List.mem_cons.1 h with rfl | h
    · omega
    · have := ih h; simp only [flat] at this; omega
theorem last_of {rs : List Row} (h : 0 < rs.length) : ∃ a r, rs = a ++ [r] := by
  refine ⟨rs.dropLast, rs.getLast (by intro e; subst e; simp at h), (List.dropLast_concat_getLast _).symm⟩
theorem hdr_last {rs rs0 : List Row} {r0 : Row} (h : rs = rs0 ++ [r0]) : (rs.map hdr)[(rs.length - 1) * 1]? = some (hdr r0) := by subst h; simp
theorem hdr_set {rs rs0 : List Row} {r0 r1 : Row} (h : rs = rs0 ++ [r0]) : (rs.map hdr).set ((rs.length - 1) * 1) (hdr r1) = (rs0 ++ [r1]).map hdr := by
  subst h
  simp only [List.map_append, List.length_append, List.map_cons, List.map_nil, List.length_cons, List.length_nil]
  rw [List.set_append_right _ _ (by simp)]; simp
theorem addRow_sep {L L' L2 : List SP} {rs : List Row} {ad : Option Addr} {m cap : Nat} {us : List Value} (l : List UInt8) (p1 : Pick L (rows rs) L') (p2 : Pick L' (own 5 1 ad m cap us) L2) (hl : l.length = m) (hu : us = bsl l) (k : PH) (s : sep L k) : sep (rows (rs ++ [⟨ad, cap, l⟩]) :: L2) k := by
  subst hl; subst hu
  have s1 := p1.sep s
  have s2 : sep (rows rs :: ow ⟨ad, cap, l⟩ :: L2) k := Ent.imp' .here (fun _ x => x) (fun k s => p2.sep s) s1
  exact rows_join (Ent.imp' .here (fun _ x => x) (fun k s => own_rows s) s2)
section
variable {E : World} {n : Nat} {ds : List Deferred} {st : List (Nat × Value)} {L L' L2 : List SP} {K : Act → World → Prop}
theorem Hd.splitLast {rs rs0 : List Row} {r0 : Row} (e : rs = rs0 ++ [r0]) (p : Pick L (rows rs) L') (h : Hd E n ds st (rows rs0 :: ow r0 :: L') K) : Hd E n ds st L K := by
  subst e
  exact Hd.heap _ (fun _ s => Ent.imp' .here (fun _ x => x) (fun k s => rows_own s) (rows_split (p.sep s))) h
theorem Hd.addRow {rs : List Row} {ad : Option Addr} {m cap : Nat} {us : List Value} (l : List UInt8) (p1 : Pick L (rows rs) L') (p2 : Pick L' (own 5 1 ad m cap us) L2) (hl : l.length = m) (hu : us = bsl l) (h : Hd E n ds st (rows (rs ++ [⟨ad, cap, l⟩]) :: L2) K) : Hd E n ds st L K :=
  Hd.heap _ (fun k s => addRow_sep l p1 p2 hl hu k s) h
end
/-- what stands ahead of the pieces is taken in, and what is left can be read -/
def AddI (L : List SP) (rs : List Row) (l : List UInt8) (rs1 : List Row) (ad1 : Option Addr) (m1 cap1 : Nat) (l1 : List UInt8) : Prop :=
  flat rs1 ++ l1 = flat rs ++ l ∧ Full rs1 ∧ m1 ≤ cap1 ∧ (l1.length = m1 ∧ m1 ≤ l.length) ∧ RdS L 1 ad1 m1 (bsl l1)
theorem take_piece {l : List UInt8} {k : Nat} (h : k * 256 < l.length) : l.take ((k + 1) * 256) = l.take (k * 256) ++ (l.drop (k * 256)).take (min 256 (l.length - k * 256)) := by
  rw [show (k + 1) * 256 = k * 256 + 256 by omega, List.take_add]
  congr 1
  rw [List.take_eq_take_iff, List.length_drop]; omega
theorem B_take {l : List UInt8} {k : Nat} : ∀ u ∈ (bsl l).take k, u.oneCell' = true := fun u hu => B_one u (List.mem_of_mem_take hu)

set_option maxHeartbeats 2000000 in
theorem add_ct (L : List SP) (b o : Nat) (rs : List Row) (hg : Good rs) (ad : Option Addr) (m cap : Nat) (l : List UInt8) (hD : RdS L 1 ad m (bsl l)) (hmc : m ≤ cap) (hm : m ≤ 70368744177664) : Ct Try.prog 44 #[.pointer (some ⟨b, o, none⟩), .slice ad m cap] (Ch b o rs :: L) (fun rs' : List Row => .int .i64 (mayE (flat rs).length m)) (fun rs' : List Row => pu (Good rs' ∧ flat rs' = if m ≤ 1048576 - (flat rs).length then flat rs ++ l else flat rs) :: Ch b o rs' :: L) := by
  refine Ct.ofM (vs := [.pointer (some ⟨b, o, none⟩), .slice ad m cap]) Try.func44 rfl rfl [(0, .pointer (some ⟨b, o, none⟩)), (1, .slice ad m cap)] (by repeat (first | exact trivial | refine ⟨rfl, ?_⟩)) ?_
  intro E
  show Hd E 77 _ _ _ _
  obtain ⟨hfull, hlen⟩ := hg
  have hrl := full_len hfull
  refine Hd.exs pkk ?_
  rintro ⟨ha, hcp⟩
  simp only [List.cons_append, List.nil_append]
  refine Hd.rdsF (RdS.mono hD (Ent.sep enn)) (fun hlm hnil => ?_)
  have hl : l.length = m := by simpa using hlm
  refine Hd.seq (fun K1 hK1 => ?_)
  refine Hd.region ?_
  refine Hd.box rfl rfl (fun b2 => ?_)
  refine Hd.yv (y_assign rfl) ?_
  refine Hd.nil ?_
  refine Hd.slots [(1, _), (2, _)] ⟨rfl, rfl, trivial⟩ ?_
  refine Hd.toK hK1 ?_
  refine Hd.seq (fun K2 hK2 => ?_)
  refine Hd.seq (fun K3 hK3 => ?_)
  refine Hd.region ?_
  first | (refine Hd.yv (y_load1 ag126 rfl (Rd.pt1 pkk (by (first | exact hdr_last hrs | rfl)))) ?_) | (refine Hd.yv (y_load1 ag126 rfl (Rd.seg1 pkk (by (first | exact hdr_last hrs | rfl)))) ?_) | (refine Hd.yv (y_loadR1 ag126 rfl (by (first | exact RdS.own pkk | exact RdS.mono (RdS.head hD (show min m (256 - r0.l.length) ≤ m by omega)) (Ent.sep enn))) (by (first | exact hdr_last hrs | rfl))) ?_)
  refine Hd.yv (y_move rfl) ?_
  refine Hd.yv (y_len Try.underlying39 rfl) ?_
  refine Hd.callE rfl fk65 (may_ct _ b o _ (flat rs).length m hlen) (Ent.sep enn) ?_
  intro _
  refine Hd.yv (y_assign rfl) ?_
  refine Hd.nil ?_
  refine Hd.slots [(1, _), (2, _), (5, _)] ⟨rfl, rfl, rfl, trivial⟩ ?_
  refine Hd.toK hK3 ?_
  refine Hd.seq (fun K4 hK4 => ?_)
  refine Hd.region ?_
  refine Hd.yv (y_move rfl) ?_
  refine Hd.yv (y_neq rfl rfl) ?_
  refine Hd.nil ?_
  refine Hd.slots [(1, _), (2, _), (5, _), (15, _)] ⟨rfl, rfl, rfl, rfl, trivial⟩ ?_
  refine Hd.toK hK4 ?_
  refine Hd.cond rfl (fun hc0 => ?_) (fun hc0 => ?_)
  ·
    try simp only [decide_eq_true_eq, decide_eq_false_iff_not, Bool.and_eq_true, Bool.or_eq_true, Bool.and_eq_false_iff, Bool.or_eq_false_iff, Bool.not_eq_true', Bool.not_eq_false', Bool.not_eq_true, Bool.not_eq_false, Int.not_lt, Int.not_le, Decidable.not_not, ne_eq] at hc0
    have hno : ¬ m ≤ 1048576 - (flat rs).length := fun h => hc0 (by simp [mayE, h])
    refine Hd.seq (fun K5 hK5 => ?_)
    refine Hd.region ?_
    refine Hd.yv (y_move rfl) ?_
    refine Hd.yv (y_assign rfl) ?_
    refine Hd.nil ?_
    refine Hd.slots [(4, _)] ⟨rfl, trivial⟩ ?_
    refine Hd.toK hK5 ?_
    refine Hd.ret ?_
    refine Hd.thenRet ?_
    clear hK1 hK2 hK3 hK4 hK5
    exact Hd.retM (fun a fr => Lv.end1 fr rfl rs rfl (Ent.sep (.pure ⟨⟨hfull, hlen⟩, by rw [if_neg hno]⟩ (.ex (ha, hcp) enn))))
  ·
    try simp only [decide_eq_true_eq, decide_eq_false_iff_not, Bool.and_eq_true, Bool.or_eq_true, Bool.and_eq_false_iff, Bool.or_eq_false_iff, Bool.not_eq_true', Bool.not_eq_false', Bool.not_eq_true, Bool.not_eq_false, Int.not_lt, Int.not_le, Decidable.not_not, ne_eq] at hc0
    have hyes : m ≤ 1048576 - (flat rs).length := by
      refine Decidable.byContradiction fun h => ?_
      simp [mayE, h] at hc0
    refine Hd.skip ?_
    refine Hd.toK hK2 ?_
    refine Hd.seq (fun K6 hK6 => ?_)
    refine Hd.region ?_
    first | (refine Hd.yv (y_load1 ag126 rfl (Rd.pt1 pkk (by (first | exact hdr_last hrs | rfl)))) ?_) | (refine Hd.yv (y_load1 ag126 rfl (Rd.seg1 pkk (by (first | exact hdr_last hrs | rfl)))) ?_) | (refine Hd.yv (y_loadR1 ag126 rfl (by (first | exact RdS.own pkk | exact RdS.mono (RdS.head hD (show min m (256 - r0.l.length) ≤ m by omega)) (Ent.sep enn))) (by (first | exact hdr_last hrs | rfl))) ?_)
    refine Hd.yv (y_nilp rfl) ?_
    first | (refine Hd.yv (y_field' (q := 1) (ft := 3) Try.underlying89 rfl sz3 rfl rfl) ?_) | (refine Hd.yv (y_fieldR (q := 1) (ft := 3) Try.underlying89 rfl sz3 rfl rfl) ?_)
    first | (refine Hd.yv (y_load1 ag3 rfl (Rd.pt1 pkk (by (first | exact hdr_last hrs | rfl)))) ?_) | (refine Hd.yv (y_load1 ag3 rfl (Rd.seg1 pkk (by (first | exact hdr_last hrs | rfl)))) ?_) | (refine Hd.yv (y_loadR1 ag3 rfl (by (first | exact RdS.own pkk | exact RdS.mono (RdS.head hD (show min m (256 - r0.l.length) ≤ m by omega)) (Ent.sep enn))) (by (first | exact hdr_last hrs | rfl))) ?_)
    refine Hd.yv (y_move rfl) ?_
    refine Hd.yv (y_len Try.underlying39 rfl) ?_
    first | (refine Hd.yv (y_addn rfl rfl (by simp only [InK]; omega)) ?_) | (refine Hd.yv (y_add rfl rfl) ?_)
    refine Hd.yv (y_nilp rfl) ?_
    first | (refine Hd.yv (y_field' (q := 1) (ft := 3) Try.underlying89 rfl sz3 rfl rfl) ?_) | (refine Hd.yv (y_fieldR (q := 1) (ft := 3) Try.underlying89 rfl sz3 rfl rfl) ?_)
    first | (refine Hd.store1 sz3 rfl rfl rfl pkk (by first | decide | (simp; done) | (simp; omega)) ?_) | (refine Hd.storeG1 sz3 rfl rfl rfl pkk (by first | decide | (simp; done) | (simp; omega)) ?_) | (refine Hd.storeO1 sz3 rfl rfl rfl pkk (by first | omega | (simp; done) | (simp; omega)) ?_)
    try simp only [List.set_cons_zero, List.set_cons_succ]
    refine Hd.nil ?_
    refine Hd.slots [(1, _), (2, _)] ⟨rfl, rfl, trivial⟩ ?_
    refine Hd.toK hK6 ?_
    refine Hd.cutK (ι := List Row × Option Addr × Nat × Nat × List UInt8) [(2, _)] (fun j => [(1, .slice j.2.1 j.2.2.1 j.2.2.2.1)]) (fun j => pu (AddI L rs l j.1 j.2.1 j.2.2.1 j.2.2.2.1 j.2.2.2.2) :: ChL b o j.1 (((flat rs).length : Int) + (m : Int)) :: pt b2 [.pointer (some ⟨b, o, none⟩)] 126 :: L) ?_ ?_ ⟨rfl, trivial⟩
    ·
      refine Hd.seq (fun K7 hK7 => ?_)
      refine Hd.region ?_
      first | (refine Hd.yv (y_load1 ag126 rfl (Rd.pt1 pkk (by (first | exact hdr_last hrs | rfl)))) ?_) | (refine Hd.yv (y_load1 ag126 rfl (Rd.seg1 pkk (by (first | exact hdr_last hrs | rfl)))) ?_) | (refine Hd.yv (y_loadR1 ag126 rfl (by (first | exact RdS.own pkk | exact RdS.mono (RdS.head hD (show min m (256 - r0.l.length) ≤ m by omega)) (Ent.sep enn))) (by (first | exact hdr_last hrs | rfl))) ?_)
      refine Hd.yv (y_nilp rfl) ?_
      first | (refine Hd.yv (y_field' (q := 0) (ft := 87) Try.underlying89 rfl sz87 rfl rfl) ?_) | (refine Hd.yv (y_fieldR (q := 0) (ft := 87) Try.underlying89 rfl sz87 rfl rfl) ?_)
      first | (refine Hd.yv (y_load1 ag87 rfl (Rd.pt1 pkk (by (first | exact hdr_last hrs | rfl)))) ?_) | (refine Hd.yv (y_load1 ag87 rfl (Rd.seg1 pkk (by (first | exact hdr_last hrs | rfl)))) ?_) | (refine Hd.yv (y_loadR1 ag87 rfl (by (first | exact RdS.own pkk | exact RdS.mono (RdS.head hD (show min m (256 - r0.l.length) ≤ m by omega)) (Ent.sep enn))) (by (first | exact hdr_last hrs | rfl))) ?_)
      refine Hd.yv (y_len Try.underlying87 rfl) ?_
      refine Hd.yv (y_assign rfl) ?_
      refine Hd.nil ?_
      refine Hd.slots [(1, _), (2, _), (6, _)] ⟨rfl, rfl, rfl, trivial⟩ ?_
      refine Hd.toK hK7 ?_
      refine Hd.seq (fun K8 hK8 => ?_)
      refine Hd.region ?_
      refine Hd.yv (y_move rfl) ?_
      refine Hd.yv (y_gtr rfl rfl) ?_
      refine Hd.nil ?_
      refine Hd.slots [(1, _), (2, _), (6, _), (32, _)] ⟨rfl, rfl, rfl, rfl, trivial⟩ ?_
      refine Hd.toK hK8 ?_
      refine Hd.cond rfl (fun hc1 => ?_) (fun hc1 => ?_)
      ·
        try simp only [decide_eq_true_eq, decide_eq_false_iff_not, Bool.and_eq_true, Bool.or_eq_true, Bool.and_eq_false_iff, Bool.or_eq_false_iff, Bool.not_eq_true', Bool.not_eq_false', Bool.not_eq_true, Bool.not_eq_false, Int.not_lt, Int.not_le, Decidable.not_not, ne_eq] at hc1
        obtain ⟨rs0, r0, hrs⟩ := last_of (show 0 < rs.length by omega)
        have hr0 : r0.l.length ≤ 1048576 := Nat.le_trans (mem_le (rs := rs) (by rw [hrs]; simp)) hlen
        refine Hd.seq (fun K9 hK9 => ?_)
        skip
        refine Hd.region ?_
        first | (refine Hd.yv (y_load1 ag126 rfl (Rd.pt1 pkk (by (first | exact hdr_last hrs | rfl)))) ?_) | (refine Hd.yv (y_load1 ag126 rfl (Rd.seg1 pkk (by (first | exact hdr_last hrs | rfl)))) ?_) | (refine Hd.yv (y_loadR1 ag126 rfl (by (first | exact RdS.own pkk | exact RdS.mono (RdS.head hD (show min m (256 - r0.l.length) ≤ m by omega)) (Ent.sep enn))) (by (first | exact hdr_last hrs | rfl))) ?_)
        refine Hd.yv (y_nilp rfl) ?_
        first | (refine Hd.yv (y_field' (q := 0) (ft := 87) Try.underlying89 rfl sz87 rfl rfl) ?_) | (refine Hd.yv (y_fieldR (q := 0) (ft := 87) Try.underlying89 rfl sz87 rfl rfl) ?_)
        first | (refine Hd.yv (y_load1 ag87 rfl (Rd.pt1 pkk (by (first | exact hdr_last hrs | rfl)))) ?_) | (refine Hd.yv (y_load1 ag87 rfl (Rd.seg1 pkk (by (first | exact hdr_last hrs | rfl)))) ?_) | (refine Hd.yv (y_loadR1 ag87 rfl (by (first | exact RdS.own pkk | exact RdS.mono (RdS.head hD (show min m (256 - r0.l.length) ≤ m by omega)) (Ent.sep enn))) (by (first | exact hdr_last hrs | rfl))) ?_)
        refine Hd.yv (y_move rfl) ?_
        first | (refine Hd.yv (y_subn rfl rfl (by simp only [InK]; omega)) ?_) | (refine Hd.yv (y_sub rfl rfl) ?_)
        refine Hd.name (b := ((rs.length - 1 : Nat) : Int)) 38 rfl (by omega) ?_
        first | (refine Hd.yv (y_idxS Try.underlying87 sz39 rfl rfl (by first | omega | decide)) ?_) | (refine Hd.yv (y_idxR Try.underlying87 sz39 rfl rfl (by first | omega | decide) (by (first | exact RdS.own pkk | exact RdS.mono (RdS.head hD (show min m (256 - r0.l.length) ≤ m by omega)) (Ent.sep enn)))) ?_)
        first | (refine Hd.yv (y_load1 ag39 rfl (Rd.pt1 pkk (by (first | exact hdr_last hrs | rfl)))) ?_) | (refine Hd.yv (y_load1 ag39 rfl (Rd.seg1 pkk (by (first | exact hdr_last hrs | rfl)))) ?_) | (refine Hd.yv (y_loadR1 ag39 rfl (by (first | exact RdS.own pkk | exact RdS.mono (RdS.head hD (show min m (256 - r0.l.length) ≤ m by omega)) (Ent.sep enn))) (by (first | exact hdr_last hrs | rfl))) ?_)
        refine Hd.yv (y_assign rfl) ?_
        refine Hd.nil ?_
        refine Hd.slots [(1, _), (2, _), (6, _), (7, _)] ⟨rfl, rfl, rfl, rfl, trivial⟩ ?_
        refine Hd.toK hK9 ?_
        refine Hd.seq (fun K10 hK10 => ?_)
        refine Hd.region ?_
        refine Hd.yv (y_move rfl) ?_
        refine Hd.yv (y_len Try.underlying39 rfl) ?_
        refine Hd.yv (y_move rfl) ?_
        refine Hd.yv (y_len Try.underlying39 rfl) ?_
        first | (refine Hd.yv (y_subn rfl rfl (by simp only [InK]; omega)) ?_) | (refine Hd.yv (y_sub rfl rfl) ?_)
        refine Hd.yv (y_max rfl rfl) ?_
        refine Hd.yv (y_min rfl rfl) ?_
        refine Hd.yv (y_assign rfl) ?_
        refine Hd.nil ?_
        refine Hd.name (b := ((min m (256 - r0.l.length) : Nat) : Int)) 8 rfl (by omega) ?_
        refine Hd.slots [(1, _), (2, _), (6, _), (7, _), (8, _)] ⟨rfl, rfl, rfl, rfl, rfl, trivial⟩ ?_
        refine Hd.toK hK10 ?_
        refine Hd.seq (fun K11 hK11 => ?_)
        refine Hd.splitLast hrs pkk ?_
        refine Hd.drawsH ([pt b2 [.pointer (some ⟨b, o, none⟩)] 126, seg b o [.slice ha rs.length hcp, .int .i64 (((flat rs).length : Int) + (m : Int))], own 39 1 ha rs.length hcp (rs.map hdr)]) (fun j => !([12].contains j)) mixed ?_
        simp only [List.length, Nat.zero_add, Nat.reduceAdd]
        first | (refine Hd.takeH 0 rfl (by kernel_rfl) (by kernel_rfl) (by kernel_rfl) (by kernel_rfl) (y_load1 ag126 rfl (Rd.pt1 pkk (by (first | exact hdr_last hrs | rfl)))) (fun _ _ => rfl) (Ent.sep enn) ?_) | (refine Hd.takeH 0 rfl (by kernel_rfl) (by kernel_rfl) (by kernel_rfl) (by kernel_rfl) (y_load1 ag126 rfl (Rd.seg1 pkk (by (first | exact hdr_last hrs | rfl)))) (fun _ _ => rfl) (Ent.sep enn) ?_) | (refine Hd.takeH 0 rfl (by kernel_rfl) (by kernel_rfl) (by kernel_rfl) (by kernel_rfl) (y_loadR1 ag126 rfl (by (first | exact RdS.own pkk | exact RdS.mono (RdS.head hD (show min m (256 - r0.l.length) ≤ m by omega)) (Ent.sep enn))) (by (first | exact hdr_last hrs | rfl))) (fun _ _ => rfl) (Ent.sep enn) ?_)
        refine Hd.takeH 1 rfl (by kernel_rfl) (by kernel_rfl) (by kernel_rfl) (by kernel_rfl) (y_nilp rfl) (fun _ _ => rfl) (Ent.sep enn) ?_
        first | (refine Hd.takeH 2 rfl (by kernel_rfl) (by kernel_rfl) (by kernel_rfl) (by kernel_rfl) (y_field' (q := 0) (ft := 87) Try.underlying89 rfl sz87 rfl rfl) (fun _ _ => rfl) (Ent.sep enn) ?_) | (refine Hd.takeH 2 rfl (by kernel_rfl) (by kernel_rfl) (by kernel_rfl) (by kernel_rfl) (y_fieldR (q := 0) (ft := 87) Try.underlying89 rfl sz87 rfl rfl) (fun _ _ => rfl) (Ent.sep enn) ?_)
        first | (refine Hd.takeH 3 rfl (by kernel_rfl) (by kernel_rfl) (by kernel_rfl) (by kernel_rfl) (y_load1 ag87 rfl (Rd.pt1 pkk (by (first | exact hdr_last hrs | rfl)))) (fun _ _ => rfl) (Ent.sep enn) ?_) | (refine Hd.takeH 3 rfl (by kernel_rfl) (by kernel_rfl) (by kernel_rfl) (by kernel_rfl) (y_load1 ag87 rfl (Rd.seg1 pkk (by (first | exact hdr_last hrs | rfl)))) (fun _ _ => rfl) (Ent.sep enn) ?_) | (refine Hd.takeH 3 rfl (by kernel_rfl) (by kernel_rfl) (by kernel_rfl) (by kernel_rfl) (y_loadR1 ag87 rfl (by (first | exact RdS.own pkk | exact RdS.mono (RdS.head hD (show min m (256 - r0.l.length) ≤ m by omega)) (Ent.sep enn))) (by (first | exact hdr_last hrs | rfl))) (fun _ _ => rfl) (Ent.sep enn) ?_)
        refine Hd.takeH 4 rfl (by kernel_rfl) (by kernel_rfl) (by kernel_rfl) (by kernel_rfl) (y_move rfl) (fun _ _ => rfl) (Ent.sep enn) ?_
        first | (refine Hd.takeH 5 rfl (by kernel_rfl) (by kernel_rfl) (by kernel_rfl) (by kernel_rfl) (y_subn rfl rfl (by simp only [InK]; omega)) (fun _ _ => rfl) (Ent.sep enn) ?_) | (refine Hd.takeH 5 rfl (by kernel_rfl) (by kernel_rfl) (by kernel_rfl) (by kernel_rfl) (y_sub rfl rfl) (fun _ _ => rfl) (Ent.sep enn) ?_)
        refine Hd.takeH 6 rfl (by kernel_rfl) (by kernel_rfl) (by kernel_rfl) (by kernel_rfl) (y_move rfl) (fun _ _ => rfl) (Ent.sep enn) ?_
        refine Hd.takeH 7 rfl (by kernel_rfl) (by kernel_rfl) (by kernel_rfl) (by kernel_rfl) (y_move rfl) (fun _ _ => rfl) (Ent.sep enn) ?_
        refine Hd.takeH 8 rfl (by kernel_rfl) (by kernel_rfl) (by kernel_rfl) (by kernel_rfl) (y_move rfl) (fun _ _ => rfl) (Ent.sep enn) ?_
        first | (refine Hd.takeH 9 rfl (by kernel_rfl) (by kernel_rfl) (by kernel_rfl) (by kernel_rfl) (y_slo_xoxN Try.underlying39 sz5 rfl rfl (by first | omega | (simp; done) | decide)) (fun _ _ => rfl) (Ent.sep enn) ?_) | (refine Hd.takeH 9 rfl (by kernel_rfl) (by kernel_rfl) (by kernel_rfl) (by kernel_rfl) (y_slo_xox Try.underlying39 sz5 rfl rfl (by first | omega | (simp; done) | decide) (by first | omega | (simp; done) | decide)) (fun _ _ => rfl) (Ent.sep enn) ?_)
        refine Hd.onlyH 10 rfl (by kernel_rfl) ?_
        refine Hd.append Try.underlying39 ty5 rfl rfl rfl pkk (by first | exact RdS.rd (Rd.pt pkk (fun j v e => by simpa using e)) rfl | (first | exact RdS.own pkk | exact RdS.mono (RdS.head hD (show min m (256 - r0.l.length) ≤ m by omega)) (Ent.sep enn))) (by first | (simp [Value.oneCell']; done) | assumption | exact B_take) (by first | (simp only [maxLen]; omega) | assumption) (by omega) (fun ad58 cap58 => ?_)
        refine Hd.nil ?_
        refine Hd.thenN ?_
        refine Hd.heldK (J := (fun j => !([12].contains j))) (i := 10) (Ent.sep enn) ?_
        refine Hd.name (b := ((rs.length - 1 : Nat) : Int)) 53 rfl (by omega) ?_
        first | (refine Hd.takeH 11 rfl (by kernel_rfl) (by kernel_rfl) (by kernel_rfl) (by kernel_rfl) (y_idxS Try.underlying87 sz39 rfl rfl (by first | omega | decide)) (fun _ _ => rfl) (Ent.sep enn) ?_) | (refine Hd.takeH 11 rfl (by kernel_rfl) (by kernel_rfl) (by kernel_rfl) (by kernel_rfl) (y_idxR Try.underlying87 sz39 rfl rfl (by first | omega | decide) (by (first | exact RdS.own pkk | exact RdS.mono (RdS.head hD (show min m (256 - r0.l.length) ≤ m by omega)) (Ent.sep enn)))) (fun _ _ => rfl) (Ent.sep enn) ?_)
        refine Hd.onlyH 12 rfl (by kernel_rfl) ?_
        first | (refine Hd.store1 sz39 rfl rfl rfl pkk (by first | decide | (simp; done) | (simp; omega)) ?_) | (refine Hd.storeG1 sz39 rfl rfl rfl pkk (by first | decide | (simp; done) | (simp; omega)) ?_) | (refine Hd.storeO1 sz39 rfl rfl rfl pkk (by first | omega | (simp; done) | (simp; omega)) ?_)
        try simp only [List.set_cons_zero, List.set_cons_succ]
        refine Hd.nil ?_
        refine Hd.thenN ?_
        refine Hd.heldN (J := (fun j => !([12].contains j))) (i := 12) rfl ?_
        refine Hd.endH (by kernel_rfl) ?_
        refine Hd.slots [(1, _), (2, _), (8, _)] ⟨rfl, rfl, rfl, trivial⟩ ?_
        refine Hd.toK hK11 ?_
        refine Hd.region ?_
        refine Hd.yv (y_move rfl) ?_
        refine Hd.yv (y_move rfl) ?_
        first | (refine Hd.yv (y_slo_oxxN Try.underlying39 sz5 rfl rfl (by first | omega | (simp; done) | decide)) ?_) | (refine Hd.yv (y_slo_oxx Try.underlying39 sz5 rfl rfl (by first | omega | (simp; done) | decide) (by first | omega | (simp; done) | decide)) ?_)
        refine Hd.yv (y_assign rfl) ?_
        refine Hd.nil ?_
        refine Hd.slots [(1, _), (2, _)] ⟨rfl, rfl, trivial⟩ ?_
        clear hK1 hK2 hK3 hK4 hK6 hK7 hK8 hK9 hK10 hK11
        refine Hd.thenN ?_
        refine Hd.addRow (rs := rs0) (r0.l ++ l.take (min m (256 - r0.l.length))) pkk pkk (by simp [hl]) (by simp [List.map_take]) ?_
        have hk1 : min m (256 - r0.l.length) ≤ m := by omega
        refine Hd.meet (rs0 ++ [⟨ad58, cap58, r0.l ++ l.take (min m (256 - r0.l.length))⟩], cutA ad 1 (min m (256 - r0.l.length)) cap, m - min m (256 - r0.l.length), cap - min m (256 - r0.l.length), l.drop (min m (256 - r0.l.length))) (by repeat (first | exact trivial | refine ⟨rfl, ?_⟩)) (Ent.sep (.pure ⟨?_, ?_, ?_, ?_, ?_⟩ (.ex (ha, hcp) (.eq pkk (seg_eq ?_) (.eq pkk (own_eq ?_ ?_) (.pick pkk enn))))))
        · rw [hrs, flat_app, flat_app, flat_one, flat_one]; simp
        · subst hrs
          exact full_app (fun x hx => hfull x (List.mem_append_left _ hx)) (full_one (by have := hfull r0 (by simp); simp; omega))
        · exact Nat.sub_le_sub_right hmc _
        · simp [hl]
        · have := RdS.tail (mx := cap) hD hk1 hmc
          rw [Nat.mul_one, ← List.map_drop] at this
          exact this
        · subst hrs; simp
        · subst hrs; simp
        · have := hdr_set (r1 := ⟨ad58, cap58, r0.l ++ l.take (min m (256 - r0.l.length))⟩) hrs
          have e : hdr ⟨ad58, cap58, r0.l ++ l.take (min m (256 - r0.l.length))⟩ = .slice ad58 (r0.l.length + min m (256 - r0.l.length)) cap58 := by
            simp [hdr, hl]
          rw [← this, e]
      ·
        try simp only [decide_eq_true_eq, decide_eq_false_iff_not, Bool.and_eq_true, Bool.or_eq_true, Bool.and_eq_false_iff, Bool.or_eq_false_iff, Bool.not_eq_true', Bool.not_eq_false', Bool.not_eq_true, Bool.not_eq_false, Int.not_lt, Int.not_le, Decidable.not_not, ne_eq] at hc1
        refine Hd.skip ?_
        clear hK1 hK2 hK3 hK4 hK6 hK7 hK8
        refine Hd.thenN ?_
        have hrs0 : rs = [] := List.eq_nil_of_length_eq_zero (by omega)
        subst hrs0
        refine Hd.meet ([], ad, m, cap, l) (by repeat (first | exact trivial | refine ⟨rfl, ?_⟩)) (Ent.sep (.pure ⟨rfl, hfull, hmc, ⟨hl, by rw [hl]; exact Nat.le_refl _⟩, hD⟩ (.ex (ha, hcp) enn)))
    ·
      rintro ⟨rs1, ad1, m1, cap1, l1⟩
      dsimp only
      refine Hd.pure (fun hI => ?_)
      obtain ⟨hfl, hfull1, hmc1, ⟨hl1, hmm⟩, hR1⟩ := hI
      refine Hd.seq (fun K12 hK12 => ?_)
      refine Hd.seq (fun K13 hK13 => ?_)
      refine Hd.region ?_
      refine Hd.yv (y_move rfl) ?_
      refine Hd.callE rfl fk66 (chunk_ct _ (.slice ad1 m1 cap1) rfl) (Ent.sep enn) ?_
      rintro ⟨c2, c3⟩
      dsimp only
      refine Hd.nil ?_
      refine Hd.slots [(2, _), (64, _)] ⟨rfl, rfl, trivial⟩ ?_
      refine Hd.toK hK13 ?_
      refine Hd.block ?_
      refine Hd.rangeF (enc := encP ad1) (S := fun xs => xs = pcs m1 (npc m1)) (Sp := SpP m1)
        (fun pre => (RX.ex fun rs2 : List Row => [pu (flat rs2 = flat rs1 ++ l1.take (pre.length * 256) ∧ Full rs2), ChL b o rs2 (((flat rs).length : Int) + (m : Int)), pt b2 [.pointer (some ⟨b, o, none⟩)] 126]) :: L) (fun _ _ => [pu False])
        rfl (by kernel_rfl) (fun _ => rfl) rfl (chunk_it [] c2 c3 ad1 m1 cap1 hmc1 (by omega)) (Ent.sep (.ex rs1 (.pure ⟨by simp, hfull1⟩ (.pick pkk (.pick pkk .two))))) ?_ ?_ ?_
      ·
        intro E l' R pre c N hR hG
        obtain ⟨q, rfl, rfl, hq⟩ := spP_last hG
        unfold Rnd
        simp only [List.cons_append, List.nil_append, pz, encP]
        refine Hd.region ?_
        refine Hd.yv (y_assign rfl) ?_
        refine Hd.nil ?_
        refine Hd.slots [(2, _), (9, _)] ⟨rfl, rfl, trivial⟩ ?_
        refine Hd.thenN ?_
        refine Hd.begin hR pkk ?_
        refine Hd.block ?_
        refine Hd.exs pkk ?_
        rintro rs2
        simp only [List.cons_append, List.nil_append]
        refine Hd.pure (fun hrs2 => ?_)
        obtain ⟨hf2, hfull2⟩ := hrs2
        rw [pcs_len] at hf2
        have hrl2 := full_len hfull2
        have hbig : (flat rs2).length ≤ 1048576 := by
          have h1 := congrArg List.length hfl
          rw [hf2]
          simp only [List.length_append, List.length_take] at h1 ⊢
          omega
        refine Hd.exs pkk ?_
        rintro ⟨ha2, hc2⟩
        simp only [List.cons_append, List.nil_append]
        have hR2 : RdS (L ++ N) 1 (cutA ad1 1 (q * 256) (q * 256 + min 256 (m1 - q * 256))) (q * 256 + min 256 (m1 - q * 256) - q * 256) (bsl ((l1.drop (q * 256)).take (min 256 (m1 - q * 256)))) := by
          have := RdS.part (mx := q * 256 + min 256 (m1 - q * 256)) hR1 (show q * 256 ≤ q * 256 + min 256 (m1 - q * 256) by omega) (by omega) (Nat.le_refl _)
          rw [Nat.mul_one, Nat.mul_one, ← List.map_drop, ← List.map_take] at this
          rw [show q * 256 + min 256 (m1 - q * 256) - q * 256 = min 256 (m1 - q * 256) by omega] at this ⊢
          exact RdS.mono this (Ent.sep .left)
        refine Hd.drawsH ([pt b2 [.pointer (some ⟨b, o, none⟩)] 126, seg b o [.slice ha2 rs2.length hc2, .int .i64 (((flat rs).length : Int) + (m : Int))]]) (fun j => !([11].contains j)) mixed ?_
        simp only [List.length, Nat.zero_add, Nat.reduceAdd]
        first | (refine Hd.takeH 0 rfl (by kernel_rfl) (by kernel_rfl) (by kernel_rfl) (by kernel_rfl) (y_load1 ag126 rfl (Rd.pt1 pkk (by (first | exact hdr_last hrs | rfl)))) (fun _ _ => rfl) (Ent.sep enn) ?_) | (refine Hd.takeH 0 rfl (by kernel_rfl) (by kernel_rfl) (by kernel_rfl) (by kernel_rfl) (y_load1 ag126 rfl (Rd.seg1 pkk (by (first | exact hdr_last hrs | rfl)))) (fun _ _ => rfl) (Ent.sep enn) ?_) | (refine Hd.takeH 0 rfl (by kernel_rfl) (by kernel_rfl) (by kernel_rfl) (by kernel_rfl) (y_loadR1 ag126 rfl (by (first | exact RdS.own pkk | exact RdS.mono (RdS.head hD (show min m (256 - r0.l.length) ≤ m by omega)) (Ent.sep enn))) (by (first | exact hdr_last hrs | rfl))) (fun _ _ => rfl) (Ent.sep enn) ?_)
        first | (refine Hd.takeH 1 rfl (by kernel_rfl) (by kernel_rfl) (by kernel_rfl) (by kernel_rfl) (y_load1 ag126 rfl (Rd.pt1 pkk (by (first | exact hdr_last hrs | rfl)))) (fun _ _ => rfl) (Ent.sep enn) ?_) | (refine Hd.takeH 1 rfl (by kernel_rfl) (by kernel_rfl) (by kernel_rfl) (by kernel_rfl) (y_load1 ag126 rfl (Rd.seg1 pkk (by (first | exact hdr_last hrs | rfl)))) (fun _ _ => rfl) (Ent.sep enn) ?_) | (refine Hd.takeH 1 rfl (by kernel_rfl) (by kernel_rfl) (by kernel_rfl) (by kernel_rfl) (y_loadR1 ag126 rfl (by (first | exact RdS.own pkk | exact RdS.mono (RdS.head hD (show min m (256 - r0.l.length) ≤ m by omega)) (Ent.sep enn))) (by (first | exact hdr_last hrs | rfl))) (fun _ _ => rfl) (Ent.sep enn) ?_)
        refine Hd.takeH 2 rfl (by kernel_rfl) (by kernel_rfl) (by kernel_rfl) (by kernel_rfl) (y_nilp rfl) (fun _ _ => rfl) (Ent.sep enn) ?_
        first | (refine Hd.takeH 3 rfl (by kernel_rfl) (by kernel_rfl) (by kernel_rfl) (by kernel_rfl) (y_field' (q := 0) (ft := 87) Try.underlying89 rfl sz87 rfl rfl) (fun _ _ => rfl) (Ent.sep enn) ?_) | (refine Hd.takeH 3 rfl (by kernel_rfl) (by kernel_rfl) (by kernel_rfl) (by kernel_rfl) (y_fieldR (q := 0) (ft := 87) Try.underlying89 rfl sz87 rfl rfl) (fun _ _ => rfl) (Ent.sep enn) ?_)
        first | (refine Hd.takeH 4 rfl (by kernel_rfl) (by kernel_rfl) (by kernel_rfl) (by kernel_rfl) (y_load1 ag87 rfl (Rd.pt1 pkk (by (first | exact hdr_last hrs | rfl)))) (fun _ _ => rfl) (Ent.sep enn) ?_) | (refine Hd.takeH 4 rfl (by kernel_rfl) (by kernel_rfl) (by kernel_rfl) (by kernel_rfl) (y_load1 ag87 rfl (Rd.seg1 pkk (by (first | exact hdr_last hrs | rfl)))) (fun _ _ => rfl) (Ent.sep enn) ?_) | (refine Hd.takeH 4 rfl (by kernel_rfl) (by kernel_rfl) (by kernel_rfl) (by kernel_rfl) (y_loadR1 ag87 rfl (by (first | exact RdS.own pkk | exact RdS.mono (RdS.head hD (show min m (256 - r0.l.length) ≤ m by omega)) (Ent.sep enn))) (by (first | exact hdr_last hrs | rfl))) (fun _ _ => rfl) (Ent.sep enn) ?_)
        refine Hd.takeH 5 rfl (by kernel_rfl) (by kernel_rfl) (by kernel_rfl) (by kernel_rfl) (y_move rfl) (fun _ _ => rfl) (Ent.sep enn) ?_
        refine Hd.onlyH 6 rfl (by kernel_rfl) ?_
        refine Hd.call rfl fk67 (clone_ct _ _ _ _ _ (RdS.mono hR2 (Ent.sep enn)) (by omega)) ?_
        rintro ⟨ad72, cap72⟩
        dsimp only
        refine Hd.nil ?_
        refine Hd.thenN ?_
        refine Hd.heldK (J := (fun j => !([11].contains j))) (i := 6) (Ent.sep enn) ?_
        refine Hd.onlyH 7 rfl (by kernel_rfl) ?_
        refine Hd.bslice (vs := [(0, _)]) rfl (by first | exact bs44_73 .. | kernel_rfl) (fun b73 => ?_)
        refine Hd.nil ?_
        refine Hd.thenN ?_
        refine Hd.heldK (J := (fun j => !([11].contains j))) (i := 7) (Ent.sep enn) ?_
        refine Hd.onlyH 8 rfl (by kernel_rfl) ?_
        refine Hd.append Try.underlying87 ty39 rfl rfl rfl pkk (by first | exact RdS.rd (Rd.pt pkk (fun j v e => by simpa using e)) rfl | (first | exact RdS.own pkk | exact RdS.mono (RdS.head hD (show min m (256 - r0.l.length) ≤ m by omega)) (Ent.sep enn))) (by first | (simp [Value.oneCell']; done) | assumption | exact B_take) (by first | (simp only [maxLen]; omega) | assumption) (by omega) (fun ad74 cap74 => ?_)
        refine Hd.nil ?_
        refine Hd.thenN ?_
        refine Hd.heldK (J := (fun j => !([11].contains j))) (i := 8) (Ent.sep enn) ?_
        refine Hd.onlyH 9 rfl (by kernel_rfl) ?_
        refine Hd.yv (y_nilp rfl) ?_
        refine Hd.nil ?_
        refine Hd.thenN ?_
        refine Hd.heldK (J := (fun j => !([11].contains j))) (i := 9) (Ent.sep enn) ?_
        first | (refine Hd.takeH 10 rfl (by kernel_rfl) (by kernel_rfl) (by kernel_rfl) (by kernel_rfl) (y_field' (q := 0) (ft := 87) Try.underlying89 rfl sz87 rfl rfl) (fun _ _ => rfl) (Ent.sep enn) ?_) | (refine Hd.takeH 10 rfl (by kernel_rfl) (by kernel_rfl) (by kernel_rfl) (by kernel_rfl) (y_fieldR (q := 0) (ft := 87) Try.underlying89 rfl sz87 rfl rfl) (fun _ _ => rfl) (Ent.sep enn) ?_)
        refine Hd.onlyH 11 rfl (by kernel_rfl) ?_
        first | (refine Hd.store1 sz87 rfl rfl rfl pkk (by first | decide | (simp; done) | (simp; omega)) ?_) | (refine Hd.storeG1 sz87 rfl rfl rfl pkk (by first | decide | (simp; done) | (simp; omega)) ?_) | (refine Hd.storeO1 sz87 rfl rfl rfl pkk (by first | omega | (simp; done) | (simp; omega)) ?_)
        try simp only [List.set_cons_zero, List.set_cons_succ]
        refine Hd.nil ?_
        refine Hd.thenN ?_
        refine Hd.heldN (J := (fun j => !([11].contains j))) (i := 11) rfl ?_
        refine Hd.endH (by kernel_rfl) ?_
        refine Hd.slots [] trivial ?_
        refine Hd.inB ?_
        clear hK1 hK2 hK3 hK4 hK6 hK12 hK13
        refine Hd.reN ?_
        simp only [List.cons_append, List.nil_append]
        have hpl : ((l1.drop (q * 256)).take (min 256 (m1 - q * 256))).length = q * 256 + min 256 (m1 - q * 256) - q * 256 := by simp [hl1]
        intro k s
        have s2 := addRow_sep (rs := rs2) ((l1.drop (q * 256)).take (min 256 (m1 - q * 256))) pkk pkk hpl rfl k s
        refine Ent.sep (.pick pkk (.ex (rs2 ++ [⟨ad72, cap72, (l1.drop (q * 256)).take (min 256 (m1 - q * 256))⟩]) (.pure ⟨?_, ?_⟩ (.ex (ad74, cap74) (.eq pkk (seg_eq ?_) (.eq pkk (own_eq ?_ ?_) (.pick pkk enn))))))) k s2
        · simp
        · simp
        · simp [hl1]
        · rw [flat_app, flat_one, hf2, List.length_append, pcs_len, List.append_assoc]
          have := take_piece (l := l1) (k := q) (by omega)
          rw [hl1] at this
          rw [← this]; rfl
        · exact full_app hfull2 (full_one (by rw [hpl]; omega))
      ·
        intro r0 xs hxs
        have hxs' : xs = pcs m1 (npc m1) := hxs
        try simp only [List.cons_append, List.nil_append]
        refine Hd.inB ?_
        refine Hd.toK hK12 ?_
        refine Hd.seq (fun K14 hK14 => ?_)
        refine Hd.region ?_
        refine Hd.yv (y_assign rfl) ?_
        refine Hd.nil ?_
        refine Hd.slots [(4, _)] ⟨rfl, trivial⟩ ?_
        refine Hd.toK hK14 ?_
        refine Hd.ret ?_
        clear hK1 hK2 hK3 hK4 hK6 hK12 hK13 hK14
        refine Hd.exs pkk ?_
        rintro rs2
        simp only [List.cons_append, List.nil_append]
        refine Hd.pure (fun hrs2 => ?_)
        obtain ⟨hf2, hfull2⟩ := hrs2
        have e2 : flat rs2 = flat rs ++ l := by
          rw [hf2, hxs', pcs_len, List.take_of_length_le (by simp only [npc]; omega), hfl]
        have e3 : ((flat rs2).length : Int) = ((flat rs).length : Int) + (m : Int) := by rw [e2, List.length_append, hl]; simp
        refine Hd.exs pkk ?_
        rintro ⟨ha2, hc2⟩
        simp only [List.cons_append, List.nil_append]
        exact Hd.retM (fun a fr => Lv.mark pkk (Lv.end1 fr rfl rs2 (by simp [mayE, hyes]; rfl) (Ent.sep (.pure ⟨⟨hfull2, by rw [e2, List.length_append]; omega⟩, by rw [if_pos hyes, e2]⟩ (.ex (ha2, hc2) (.eq pkk (seg_eq (by rw [e3])) (.pick pkk (.pick pkk enn))))))))
      ·
        rintro r0_0 (_ | id0) pre0 hG0
        ·
          exact Hd.absurd (by first | exact id | simp)
        ·
          exact Hd.absurd (by first | exact id | simp)
end Bc
end Go.Proofs.Ytmpemhbfgbochaa
