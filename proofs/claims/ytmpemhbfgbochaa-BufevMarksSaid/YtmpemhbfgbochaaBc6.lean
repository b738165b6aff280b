/-
  Chains: Take, Drain, Chunks.
-/
import Derived.Test.YtmpemhbfgbochaaBc5
namespace Go.Proofs.Ytmpemhbfgbochaa
set_option linter.unusedSimpArgs false
set_option linter.unusedVariables false
set_option linter.unnecessarySimpa false
open Go.RX Fx
namespace Bc
theorem good_drop {rs rest : List Row} {j : Nat} (hg : Good rs) (h : flat rest = (flat rs).drop j) (hf : Full rest) : Good rest := ⟨hf, by rw [h, List.length_drop]; have := hg.2; omega⟩
set_option maxHeartbeats 2000000 in
theorem take_ct (L : List SP) (b o : Nat) (rs : List Row) (hg : Good rs) (n : Int) (hn : n ≤ 9223372036854775807) : Ct Try.prog 40 #[.pointer (some ⟨b, o, none⟩), .int .i64 n] (Ch b o rs :: L) (fun q_ : List Row × Option Addr × Nat => .slice q_.2.1 ((flat rs).take n.toNat).length q_.2.2) (fun q_ : List Row × Option Addr × Nat => pu (flat q_.1 = (flat rs).drop n.toNat ∧ Full q_.1) :: own 5 1 q_.2.1 ((flat rs).take n.toNat).length q_.2.2 (bsl ((flat rs).take n.toNat)) :: Ch b o q_.1 :: L) := by
  refine Ct.of (vs := [.pointer (some ⟨b, o, none⟩), .int .i64 n]) Try.func40 rfl rfl [(0, .pointer (some ⟨b, o, none⟩)), (1, .int .i64 n)] (by repeat (first | exact trivial | refine ⟨rfl, ?_⟩)) ?_
  intro E
  show Hd E 11 _ _ _ _
  refine Hd.seq (fun K1 hK1 => ?_)
  refine Hd.region ?_
  refine Hd.yv (y_assign rfl) ?_
  refine Hd.nil ?_
  refine Hd.slots [(0, _), (1, _)] ⟨rfl, rfl, trivial⟩ ?_
  refine Hd.toK hK1 ?_
  refine Hd.seq (fun K2 hK2 => ?_)
  refine Hd.seq (fun K3 hK3 => ?_)
  refine Hd.region ?_
  refine Hd.yv (y_move rfl) ?_
  first | (refine Hd.yv (y_eql_pointer Try.underlying126 rfl rfl) ?_) | (refine Hd.yv (y_eql_one Try.underlying126 sz89 rfl rfl rfl) ?_)
  refine Hd.nil ?_
  refine Hd.slots [(0, _), (1, _), (6, _)] ⟨rfl, rfl, rfl, trivial⟩ ?_
  refine Hd.toK hK3 ?_
  refine Hd.condF rfl ?_
  refine Hd.skip ?_
  refine Hd.toK hK2 ?_
  refine Hd.seq (fun K4 hK4 => ?_)
  refine Hd.region ?_
  refine Hd.yv (y_move rfl) ?_
  refine Hd.yv (y_move rfl) ?_
  refine Hd.callE rfl fk61 (cut_ct _ b o rs hg n hn) (Ent.sep enn) ?_
  rintro ⟨outs, rest, ad, cap⟩
  dsimp only
  refine Hd.pure (fun hcut => ?_)
  obtain ⟨ho, hr, hfo, hfr⟩ := hcut
  have hol := full_len hfo
  have htl : (flat outs).length ≤ 1048576 := by rw [ho, List.length_take]; have := hg.2; omega
  refine Hd.call rfl fk60 (concat_ct _ ad cap outs (RdS.own pkk) (fun r hr => rows_rd pkk hr) (by omega) (by omega)) ?_
  rintro ⟨a2, c2⟩
  dsimp only
  rw [ho]
  refine Hd.yv (y_assign rfl) ?_
  refine Hd.nil ?_
  refine Hd.slots [(4, _)] ⟨rfl, trivial⟩ ?_
  refine Hd.toK hK4 ?_
  refine Hd.ret ?_
  clear hK1 hK2 hK3 hK4
  exact Hd.ret1 rfl (rest, a2, c2) rfl (Ent.sep (.pure ⟨hr, hfr⟩ enn))
set_option maxHeartbeats 2000000 in
theorem lenC_ct (L : List SP) (b o : Nat) (rs : List Row) : Ct Try.prog 41 #[.pointer (some ⟨b, o, none⟩)] (Ch b o rs :: L) (fun _ : Unit => .int .i64 ((flat rs).length : Int)) (fun _ : Unit => Ch b o rs :: L) := by
  refine Ct.of (vs := [.pointer (some ⟨b, o, none⟩)]) Try.func41 rfl rfl [(0, .pointer (some ⟨b, o, none⟩))] (by repeat (first | exact trivial | refine ⟨rfl, ?_⟩)) ?_
  intro E
  show Hd E 9 _ _ _ _
  refine Hd.exs pkk ?_
  rintro ⟨ha, hcp⟩
  simp only [List.cons_append, List.nil_append]
  refine Hd.seq (fun K1 hK1 => ?_)
  refine Hd.region ?_
  refine Hd.yv (y_assign rfl) ?_
  refine Hd.nil ?_
  refine Hd.slots [(0, _)] ⟨rfl, trivial⟩ ?_
  refine Hd.toK hK1 ?_
  refine Hd.seq (fun K2 hK2 => ?_)
  refine Hd.seq (fun K3 hK3 => ?_)
  refine Hd.region ?_
  refine Hd.yv (y_move rfl) ?_
  first | (refine Hd.yv (y_eql_pointer Try.underlying126 rfl rfl) ?_) | (refine Hd.yv (y_eql_one Try.underlying126 sz89 rfl rfl rfl) ?_)
  refine Hd.nil ?_
  refine Hd.slots [(0, _), (4, _)] ⟨rfl, rfl, trivial⟩ ?_
  refine Hd.toK hK3 ?_
  refine Hd.condF rfl ?_
  refine Hd.skip ?_
  refine Hd.toK hK2 ?_
  refine Hd.seq (fun K4 hK4 => ?_)
  refine Hd.region ?_
  refine Hd.yv (y_move rfl) ?_
  refine Hd.yv (y_nilp rfl) ?_
  first | (refine Hd.yv (y_field' (q := 1) (ft := 3) Try.underlying89 rfl sz3 rfl rfl) ?_) | (refine Hd.yv (y_fieldR (q := 1) (ft := 3) Try.underlying89 rfl sz3 rfl rfl) ?_)
  first | (refine Hd.yv (y_load1 ag3 rfl (Rd.pt1 pkk (by (first | rfl)))) ?_) | (refine Hd.yv (y_load1 ag3 rfl (Rd.seg1 pkk (by (first | rfl)))) ?_) | (refine Hd.yv (y_loadR1 ag3 rfl (by (first | exact RdS.own pkk)) (by (first | rfl))) ?_)
  refine Hd.yv (y_assign rfl) ?_
  refine Hd.nil ?_
  refine Hd.slots [(2, _)] ⟨rfl, trivial⟩ ?_
  refine Hd.toK hK4 ?_
  refine Hd.ret ?_
  clear hK1 hK2 hK3 hK4
  exact Hd.ret1 rfl () rfl (Ent.sep (.ex (ha, hcp) enn))
theorem len_nil (L : List SP) : Ct Try.prog 41 #[.pointer none] L (fun _ : Unit => .int .i64 0) (fun _ => L) := by
  refine Ct.of (vs := [.pointer none]) Try.func41 rfl rfl [(0, .pointer none)] ⟨rfl, trivial⟩ ?_
  intro E
  show Hd E 9 _ _ _ _
  refine Hd.seq (fun K1 hK1 => ?_)
  refine Hd.region ?_
  refine Hd.yv (y_assign rfl) ?_
  refine Hd.nil ?_
  refine Hd.slots [(0, _)] ⟨rfl, trivial⟩ ?_
  refine Hd.toK hK1 ?_
  refine Hd.seq (fun K2 hK2 => ?_)
  refine Hd.seq (fun K3 hK3 => ?_)
  refine Hd.region ?_
  refine Hd.yv (y_move rfl) ?_
  first | (refine Hd.yv (y_eql_pointer Try.underlying126 rfl rfl) ?_) | (refine Hd.yv (y_eql_one Try.underlying126 sz89 rfl rfl rfl) ?_)
  refine Hd.nil ?_
  refine Hd.slots [(0, _), (4, _)] ⟨rfl, rfl, trivial⟩ ?_
  refine Hd.toK hK3 ?_
  refine Hd.condT rfl ?_
  refine Hd.seq (fun K4 hK4 => ?_)
  refine Hd.region ?_
  refine Hd.yv (y_assign rfl) ?_
  refine Hd.nil ?_
  refine Hd.slots [(2, _)] ⟨rfl, trivial⟩ ?_
  refine Hd.toK hK4 ?_
  refine Hd.ret ?_
  refine Hd.thenRet ?_
  clear hK1 hK2 hK3 hK4
  exact Hd.ret1 rfl () (by first | rfl | (simp only [*]; done) | (simp [*]; done)) (Ent.sep enn)
set_option maxHeartbeats 2000000 in
theorem drain_ct (L : List SP) (b o : Nat) (rs : List Row) (hg : Good rs) (n : Int) (hn : n ≤ 9223372036854775807) : Ct Try.prog 64 #[.pointer (some ⟨b, o, none⟩), .int .i64 n] (Ch b o rs :: L) (fun rest : List Row => .int .i64 (((flat rs).take n.toNat).length : Int)) (fun rest : List Row => pu (flat rest = (flat rs).drop n.toNat ∧ Full rest) :: Ch b o rest :: L) := by
  refine Ct.of (vs := [.pointer (some ⟨b, o, none⟩), .int .i64 n]) Try.func64 rfl rfl [(0, .pointer (some ⟨b, o, none⟩)), (1, .int .i64 n)] (by repeat (first | exact trivial | refine ⟨rfl, ?_⟩)) ?_
  intro E
  show Hd E 17 _ _ _ _
  refine Hd.seq (fun K1 hK1 => ?_)
  refine Hd.region ?_
  refine Hd.yv (y_assign rfl) ?_
  refine Hd.nil ?_
  refine Hd.slots [(0, _), (1, _)] ⟨rfl, rfl, trivial⟩ ?_
  refine Hd.toK hK1 ?_
  refine Hd.seq (fun K2 hK2 => ?_)
  refine Hd.region ?_
  refine Hd.yv (y_move rfl) ?_
  refine Hd.callE rfl fk41 (lenC_ct _ b o rs) (Ent.sep enn) ?_
  intro _
  refine Hd.yv (y_assign rfl) ?_
  refine Hd.nil ?_
  refine Hd.slots [(0, _), (1, _), (5, _)] ⟨rfl, rfl, rfl, trivial⟩ ?_
  refine Hd.toK hK2 ?_
  refine Hd.seq (fun K3 hK3 => ?_)
  refine Hd.seq (fun K4 hK4 => ?_)
  refine Hd.region ?_
  refine Hd.yv (y_move rfl) ?_
  refine Hd.yv (y_neq_pointer Try.underlying126 rfl rfl) ?_
  refine Hd.nil ?_
  refine Hd.slots [(0, _), (1, _), (5, _), (9, _)] ⟨rfl, rfl, rfl, rfl, trivial⟩ ?_
  refine Hd.toK hK4 ?_
  refine Hd.condT rfl ?_
  refine Hd.region ?_
  refine Hd.yv (y_move rfl) ?_
  refine Hd.yv (y_move rfl) ?_
  refine Hd.callE rfl fk61 (cut_ct _ b o rs hg n hn) (Ent.sep enn) ?_
  rintro ⟨outs, rest, ad, cap⟩
  dsimp only
  refine Hd.pure (fun hcut => ?_)
  obtain ⟨ho, hr, hfo, hfr⟩ := hcut
  have hl2 := hg.2
  have hl3 : (flat rest).length = (flat rs).length - n.toNat := by rw [hr, List.length_drop]
  refine Hd.nil ?_
  refine Hd.slots [(0, _), (5, _)] ⟨rfl, rfl, trivial⟩ ?_
  refine Hd.toK hK3 ?_
  refine Hd.seq (fun K5 hK5 => ?_)
  refine Hd.region ?_
  refine Hd.yv (y_move rfl) ?_
  refine Hd.yv (y_move rfl) ?_
  refine Hd.callE rfl fk41 (lenC_ct _ b o rest) (Ent.sep enn) ?_
  intro _
  first | (refine Hd.yv (y_subn rfl rfl (by simp only [InK]; omega)) ?_) | (refine Hd.yv (y_sub rfl rfl) ?_)
  refine Hd.yv (y_assign rfl) ?_
  refine Hd.nil ?_
  refine Hd.slots [(4, _)] ⟨rfl, trivial⟩ ?_
  refine Hd.toK hK5 ?_
  refine Hd.ret ?_
  clear hK1 hK2 hK3 hK4 hK5
  refine Hd.name (b := (((flat rs).take n.toNat).length : Int)) 4 rfl (by rw [List.length_take]; omega) ?_
  exact Hd.ret1 rfl rest rfl (Ent.sep (.pure ⟨hr, hfr⟩ enn))
set_option maxHeartbeats 2000000 in
theorem chunks_ct (L : List SP) (p : Option Addr) : Ct Try.prog 75 #[.pointer p] (L) (fun b : Nat => .func (.func 80) #[] #[.pointer (some ⟨b, 0, none⟩)]) (fun b : Nat => pt b [.pointer p] 126 :: L) := by
  refine Ct.of (vs := [.pointer p]) Try.func75 rfl rfl [(0, .pointer p)] (by repeat (first | exact trivial | refine ⟨rfl, ?_⟩)) ?_
  intro E
  show Hd E 4 _ _ _ _
  refine Hd.seq (fun K1 hK1 => ?_)
  refine Hd.region ?_
  refine Hd.box rfl rfl (fun b1 => ?_)
  refine Hd.yv (y_assign rfl) ?_
  refine Hd.nil ?_
  refine Hd.slots [(1, _)] ⟨rfl, trivial⟩ ?_
  refine Hd.toK hK1 ?_
  refine Hd.seq (fun K2 hK2 => ?_)
  refine Hd.region ?_
  refine Hd.yv (y_mkf (fv := []) (cv := [_]) rfl rfl) ?_
  refine Hd.yv (y_assign rfl) ?_
  refine Hd.nil ?_
  refine Hd.slots [(2, _)] ⟨rfl, trivial⟩ ?_
  refine Hd.toK hK2 ?_
  refine Hd.ret ?_
  clear hK1 hK2
  exact Hd.ret1 rfl b1 rfl (Ent.sep enn)
/-- rows, and where each begins -/
def ats : List Row → Nat → List (Nat × Row)
  | [], _ => []
  | r :: rs, a => (a, r) :: ats rs (a + r.l.length)
theorem ats_len : ∀ (rs : List Row) (a : Nat), (ats rs a).length = rs.length
  | [], _ => rfl
  | r :: rs, a => by simp [ats, ats_len rs]
theorem ats_get : ∀ (rs : List Row) (a i : Nat) (h : i < rs.length), (ats rs a)[i]? = some (a + (flat (rs.take i)).length, rs[i])
  | r :: rs, a, 0, _ => by simp [ats, flat]
  | r :: rs, a, i + 1, h => by
    have := ats_get rs (a + r.l.length) i (by simpa using h)
    simp only [ats, List.getElem?_cons_succ, this, List.take_succ_cons, List.getElem_cons_succ]
    simp [flat, Nat.add_assoc]
theorem ats_take {rs : List Row} {i : Nat} (h : i < rs.length) : (ats rs 0).take (i + 1) = (ats rs 0).take i ++ [((flat (rs.take i)).length, rs[i])] := by
  rw [List.take_add_one, ats_get rs 0 i h]; simp
abbrev encA (c : Nat × Row) : List Value := [.int .i64 (c.1 : Int), hdr c.2]
def SpA (rs : List Row) (xs : List (Nat × Row)) : Prop := ∃ i, i < rs.length ∧ xs = (ats rs 0).take (i + 1)
theorem spA_last {rs : List Row} {pre : List (Nat × Row)} {c : Nat × Row} (h : SpA rs (pre ++ [c])) : ∃ (i : Nat) (hi : i < rs.length), pre = (ats rs 0).take i ∧ c = ((flat (rs.take i)).length, rs[i]) ∧ pre.length = i := by
  obtain ⟨i, hi, e⟩ := h
  rw [ats_take hi] at e
  have := List.append_inj' e rfl
  refine ⟨i, hi, this.1, by simpa using this.2, ?_⟩
  rw [this.1, List.length_take, ats_len]; omega
theorem chunks_it (bc b o : Nat) (rs : List Row) (ha : Option Addr) (hcp : Nat) (len : Int) (hm : (flat rs).length ≤ 1048576) (hr : rs.length ≤ 1048576) : It Try.prog 80 [.pointer (some ⟨bc, 0, none⟩)] encA
    (fun xs => xs = ats rs 0) (SpA rs)
    (pt bc [.pointer (some ⟨b, o, none⟩)] 126 :: seg b o [.slice ha rs.length hcp, .int .i64 len] :: OwH ha hcp rs :: []) (pt bc [.pointer (some ⟨b, o, none⟩)] 126 :: seg b o [.slice ha rs.length hcp, .int .i64 len] :: OwH ha hcp rs :: []) := by
  intro l J X hy
  refine Ct.of (vs := [.func (.yield l) #[] #[], .pointer (some ⟨bc, 0, none⟩)]) Try.func80 rfl rfl [(0, .func (.yield l) #[] #[]), (1, .pointer (some ⟨bc, 0, none⟩))] ⟨rfl, rfl, trivial⟩ ?_
  intro E
  show Hd E 27 _ _ _ _
  refine Hd.heap (pt bc [.pointer (some ⟨b, o, none⟩)] 126 :: seg b o [.slice ha rs.length hcp, .int .i64 len] :: OwH ha hcp rs :: J []) (fun k h => sep_app h) ?_
  refine Hd.seq (fun K1 hK1 => ?_)
  refine Hd.seq (fun K2 hK2 => ?_)
  refine Hd.region ?_
  first | (refine Hd.yv (y_load1 ag126 rfl (Rd.pt1 pkk (by (first | exact hdr_at hi' | rfl)))) ?_) | (refine Hd.yv (y_load1 ag126 rfl (Rd.seg1 pkk (by (first | exact hdr_at hi' | rfl)))) ?_) | (refine Hd.yv (y_loadR1 ag126 rfl (by (first | exact RdS.own pkk)) (by (first | exact hdr_at hi' | rfl))) ?_)
  first | (refine Hd.yv (y_eql_pointer Try.underlying126 rfl rfl) ?_) | (refine Hd.yv (y_eql_one Try.underlying126 sz89 rfl rfl rfl) ?_)
  refine Hd.nil ?_
  refine Hd.slots [(0, _), (1, _), (7, _)] ⟨rfl, rfl, rfl, trivial⟩ ?_
  refine Hd.toK hK2 ?_
  refine Hd.condF rfl ?_
  refine Hd.skip ?_
  refine Hd.toK hK1 ?_
  refine Hd.seq (fun K3 hK3 => ?_)
  refine Hd.region ?_
  refine Hd.yv (y_assign rfl) ?_
  refine Hd.nil ?_
  refine Hd.slots [(0, _), (1, _), (3, _)] ⟨rfl, rfl, rfl, trivial⟩ ?_
  refine Hd.toK hK3 ?_
  refine Hd.seq (fun K4 hK4 => ?_)
  refine Hd.region ?_
  first | (refine Hd.yv (y_load1 ag126 rfl (Rd.pt1 pkk (by (first | exact hdr_at hi' | rfl)))) ?_) | (refine Hd.yv (y_load1 ag126 rfl (Rd.seg1 pkk (by (first | exact hdr_at hi' | rfl)))) ?_) | (refine Hd.yv (y_loadR1 ag126 rfl (by (first | exact RdS.own pkk)) (by (first | exact hdr_at hi' | rfl))) ?_)
  refine Hd.yv (y_nilp rfl) ?_
  first | (refine Hd.yv (y_field' (q := 0) (ft := 87) Try.underlying89 rfl sz87 rfl rfl) ?_) | (refine Hd.yv (y_fieldR (q := 0) (ft := 87) Try.underlying89 rfl sz87 rfl rfl) ?_)
  first | (refine Hd.yv (y_load1 ag87 rfl (Rd.pt1 pkk (by (first | exact hdr_at hi' | rfl)))) ?_) | (refine Hd.yv (y_load1 ag87 rfl (Rd.seg1 pkk (by (first | exact hdr_at hi' | rfl)))) ?_) | (refine Hd.yv (y_loadR1 ag87 rfl (by (first | exact RdS.own pkk)) (by (first | exact hdr_at hi' | rfl))) ?_)
  refine Hd.yv (y_len Try.underlying87 rfl) ?_
  refine Hd.yv (y_move rfl) ?_
  refine Hd.nil ?_
  refine Hd.slots [(0, _), (3, _), (11, _), (12, _), (13, _)] ⟨rfl, rfl, rfl, rfl, rfl, trivial⟩ ?_
  refine Hd.toK hK4 ?_
  refine Hd.block ?_
  refine Hd.loopK (ι := Nat) [(0, _), (11, _), (12, _)] (fun i => [(3, .int .i64 ((flat (rs.take i)).length : Int)), (13, .int .i64 (i : Int))]) (fun i => pu (i ≤ rs.length) :: pt bc [.pointer (some ⟨b, o, none⟩)] 126 :: seg b o [.slice ha rs.length hcp, .int .i64 len] :: OwH ha hcp rs :: J ((ats rs 0).take i)) (fun i => rs.length - i) 0 (by repeat (first | exact trivial | refine ⟨rfl, ?_⟩)) (by repeat (first | exact trivial | refine ⟨rfl, ?_⟩)) (Ent.sep (.pure (by first | omega | (simp; done) | (simp; omega) | exact ⟨by simp, by simp⟩) enn)) ?_
  intro i
  try dsimp only
  refine Hd.pure (fun hp0 => ?_)
  try dsimp only at hp0
  refine Hd.seq (fun K5 hK5 => ?_)
  refine Hd.region ?_
  refine Hd.yv (y_lss rfl rfl) ?_
  refine Hd.nil ?_
  refine Hd.slots [(0, _), (3, _), (11, _), (12, _), (13, _), (14, _)] ⟨rfl, rfl, rfl, rfl, rfl, rfl, trivial⟩ ?_
  refine Hd.toK hK5 ?_
  refine Hd.seq (fun K6 hK6 => ?_)
  refine Hd.cond rfl (fun hc1 => ?_) (fun hc1 => ?_)
  ·
    try simp only [decide_eq_true_eq, decide_eq_false_iff_not, Bool.and_eq_true, Bool.or_eq_true, Bool.and_eq_false_iff, Bool.or_eq_false_iff, Bool.not_eq_true', Bool.not_eq_false', Bool.not_eq_true, Bool.not_eq_false, Int.not_lt, Int.not_le, Decidable.not_not, ne_eq] at hc1
    have hi' : i < rs.length := by omega
    have e1 := flat_take_succ hi'
    have e2 := flat_take_le (rs := rs) (i + 1)
    rw [e1, List.length_append] at e2
    refine Hd.skip ?_
    refine Hd.toK hK6 ?_
    refine Hd.seq (fun K7 hK7 => ?_)
    refine Hd.block ?_
    refine Hd.seq (fun K8 hK8 => ?_)
    refine Hd.region ?_
    first | (refine Hd.yv (y_idxS Try.underlying87 sz39 rfl rfl (by first | omega | decide)) ?_) | (refine Hd.yv (y_idxR Try.underlying87 sz39 rfl rfl (by first | omega | decide) (by (first | exact RdS.own pkk))) ?_)
    first | (refine Hd.yv (y_load1 ag39 rfl (Rd.pt1 pkk (by (first | exact hdr_at hi' | rfl)))) ?_) | (refine Hd.yv (y_load1 ag39 rfl (Rd.seg1 pkk (by (first | exact hdr_at hi' | rfl)))) ?_) | (refine Hd.yv (y_loadR1 ag39 rfl (by (first | exact RdS.own pkk)) (by (first | exact hdr_at hi' | rfl))) ?_)
    refine Hd.yv (y_assign rfl) ?_
    refine Hd.nil ?_
    refine Hd.slots [(0, _), (3, _), (5, _), (11, _), (12, _), (13, _)] ⟨rfl, rfl, rfl, rfl, rfl, rfl, trivial⟩ ?_
    refine Hd.toK hK8 ?_
    refine Hd.seq (fun K9 hK9 => ?_)
    refine Hd.seq (fun K10 hK10 => ?_)
    refine Hd.region ?_
    refine Hd.yv (y_move rfl) ?_
    refine Hd.yv (y_move rfl) ?_
    refine Hd.yv (y_move rfl) ?_
    refine Hd.yield (pre := (ats rs 0).take i) (c := ((flat (rs.take i)).length, rs[i])) (M := pt bc [.pointer (some ⟨b, o, none⟩)] 126 :: seg b o [.slice ha rs.length hcp, .int .i64 len] :: OwH ha hcp rs :: []) hy rfl rfl ⟨i, hi', (ats_take hi').symm⟩ (fun k h => sep_app (M := [_, _, _]) h) ?_
    intro yb
    rw [← ats_take hi']
    refine Hd.yv (y_not rfl) ?_
    refine Hd.nil ?_
    refine Hd.slots [(0, _), (3, _), (5, _), (11, _), (12, _), (13, _), (21, _)] ⟨rfl, rfl, rfl, rfl, rfl, rfl, rfl, trivial⟩ ?_
    refine Hd.toK hK10 ?_
    refine Hd.cond rfl (fun hc2 => ?_) (fun hc2 => ?_)
    ·
      try simp only [decide_eq_true_eq, decide_eq_false_iff_not, Bool.and_eq_true, Bool.or_eq_true, Bool.and_eq_false_iff, Bool.or_eq_false_iff, Bool.not_eq_true', Bool.not_eq_false', Bool.not_eq_true, Bool.not_eq_false, Int.not_lt, Int.not_le, Decidable.not_not, ne_eq] at hc2
      subst hc2
      simp only [cond_false]
      refine Hd.ret ?_
      refine Hd.thenRet ?_
      refine Hd.inBret ?_
      refine Hd.thenRet ?_
      refine Hd.thenRet ?_
      refine Hd.inBret ?_
      clear hK1 hK2 hK3 hK4 hK5 hK6 hK7 hK8 hK9 hK10
      exact Hd.ret0 rfl ((ats rs 0).take (i + 1), false) rfl (fun k' h => Ent.sep (.pure ⟨i, hi', rfl⟩ .same) k' h)
    ·
      try simp only [decide_eq_true_eq, decide_eq_false_iff_not, Bool.and_eq_true, Bool.or_eq_true, Bool.and_eq_false_iff, Bool.or_eq_false_iff, Bool.not_eq_true', Bool.not_eq_false', Bool.not_eq_true, Bool.not_eq_false, Int.not_lt, Int.not_le, Decidable.not_not, ne_eq] at hc2
      subst hc2
      simp only [cond_true]
      refine Hd.heap (pt bc [.pointer (some ⟨b, o, none⟩)] 126 :: seg b o [.slice ha rs.length hcp, .int .i64 len] :: OwH ha hcp rs :: J ((ats rs 0).take (i + 1))) (fun k h => sep_app (N := [_, _, _]) h) ?_
      refine Hd.skip ?_
      refine Hd.toK hK9 ?_
      refine Hd.region ?_
      refine Hd.yv (y_move rfl) ?_
      refine Hd.yv (y_move rfl) ?_
      refine Hd.yv (y_len Try.underlying39 rfl) ?_
      first | (refine Hd.yv (y_addn rfl rfl (by simp only [InK]; omega)) ?_) | (refine Hd.yv (y_add rfl rfl) ?_)
      refine Hd.yv (y_assign rfl) ?_
      refine Hd.nil ?_
      refine Hd.slots [(0, _), (3, _), (11, _), (12, _), (13, _)] ⟨rfl, rfl, rfl, rfl, rfl, trivial⟩ ?_
      refine Hd.inB ?_
      refine Hd.toK hK7 ?_
      refine Hd.region ?_
      first | (refine Hd.yv (y_addn rfl rfl (by simp only [InK]; omega)) ?_) | (refine Hd.yv (y_add rfl rfl) ?_)
      refine Hd.yv (y_move rfl) ?_
      refine Hd.nil ?_
      refine Hd.slots [(0, _), (3, _), (11, _), (12, _), (13, _)] ⟨rfl, rfl, rfl, rfl, rfl, trivial⟩ ?_
      clear hK1 hK2 hK3 hK4 hK5 hK6 hK7 hK8 hK9 hK10
      refine Hd.thenN ?_
      exact Hd.again (i + 1) (by first | omega | (simp only; omega) | (simp; omega)) (by repeat (first | exact trivial | refine ⟨rfl, ?_⟩ | refine ⟨by (show some _ = some _; rw [e1, List.length_append]; rfl), ?_⟩)) (Ent.sep (.pure (by first | omega | (simp; done) | (simp; omega) | (dsimp only; omega)) enn))
  ·
    try simp only [decide_eq_true_eq, decide_eq_false_iff_not, Bool.and_eq_true, Bool.or_eq_true, Bool.and_eq_false_iff, Bool.or_eq_false_iff, Bool.not_eq_true', Bool.not_eq_false', Bool.not_eq_true, Bool.not_eq_false, Int.not_lt, Int.not_le, Decidable.not_not, ne_eq] at hc1
    refine Hd.exit ?_
    refine Hd.thenExit ?_
    refine Hd.thenExit ?_
    refine Hd.inBexit ?_
    clear hK1 hK2 hK3 hK4 hK5 hK6
    have hi : i = rs.length := by omega
    subst hi
    have e0 : (ats rs 0).take rs.length = ats rs 0 := List.take_of_length_le (by rw [ats_len]; exact Nat.le_refl _)
    rw [e0]
    exact Hd.end0 rfl (ats rs 0, true) rfl (fun k' h => Ent.sep (.pure rfl .same) k' (sep_app (M := [_, _, _]) h))
theorem ent3 {L : List SP} {A B C : SP} : Ent (A :: B :: C :: L) (L ++ [A, B, C]) := Ent.swap (L := [A, B, C])
abbrev V (a : Int) : Value := .int .i64 a
def lens (rs : List Row) : List Value := rs.map fun r => V (r.l.length : Int)
theorem ats_lens : ∀ (rs : List Row) (a : Nat), (ats rs a).map (fun c => V (c.2.l.length : Int)) = lens rs
  | [], _ => rfl
  | r :: rs, a => by simp [ats, lens] at *; exact ats_lens rs _

end Bc
end Go.Proofs.Ytmpemhbfgbochaa
