/-
  Worlds: New, none, find, both. Worlds: a wire turns; Read, Write. Worlds: Read, Write. Worlds: Write, Ready. Worlds: Ready. Worlds: both, the free numbers.
-/
import Derived.Test.YtbfddabjbkohdaaZKquNamesD
namespace Go.Proofs.Ytbfddabjbkohdaa
set_option linter.unusedSimpArgs false
set_option linter.unusedVariables false
set_option linter.unnecessarySimpa false
open Go.RX Fx
namespace Wo
set_option maxRecDepth 8000
theorem bd_sig : Try.prog.built 131 [] = some ((List.replicate 32 false).map Value.bool ++ (List.replicate 32 (0 : Int)).map (Value.int .i64)).toArray := by kernel_rfl
set_option maxHeartbeats 2000000 in
theorem signew_ct (L : List SP) : Ct Try.prog 33 #[] (L) (fun sb : Nat => .pointer (some ⟨sb, 0, none⟩)) (fun sb : Nat => SigP sb (List.replicate 32 false) (List.replicate 32 0) :: L) := by
  refine Ct.of (vs := []) Try.func33 rfl rfl [] (by repeat (first | exact trivial | refine ⟨rfl, ?_⟩)) ?_
  intro E
  show Hd E 3 _ _ _ _
  refine Hd.seq (fun K1 hK1 => ?_)
  refine Hd.region ?_
  refine Hd.yv (y_assign rfl) ?_
  refine Hd.nil ?_
  refine Hd.slots [] trivial ?_
  refine Hd.toK hK1 ?_
  refine Hd.seq (fun K2 hK2 => ?_)
  refine Hd.region ?_
  refine Hd.yv (y_build (vs := []) rfl bd_sig) ?_
  refine Hd.box (us := (List.replicate 32 false).map Value.bool ++ (List.replicate 32 (0 : Int)).map (Value.int .i64)) rfl rfl (fun b2 => ?_)
  refine Hd.yv (y_assign rfl) ?_
  refine Hd.nil ?_
  refine Hd.slots [(0, _)] ⟨rfl, trivial⟩ ?_
  refine Hd.toK hK2 ?_
  refine Hd.ret ?_
  clear hK1 hK2
  exact Hd.ret1 rfl b2 rfl (Ent.sep enn)
def newA : WA := ⟨[], 0, List.replicate 32 false, List.replicate 32 0, none⟩
theorem newA_ok : WOk newA := ⟨fun _ _ _ _ _ _ h => (by cases h), fun _ h => (by cases h), by decide, rfl, rfl, fun _ h => (by cases h), .nil, fun _ h => (by cases h), fun _ _ h => (by cases h), fun m x h => by simp [newA] at h⟩
theorem bd_world (sb : Nat) : Try.prog.built 80 [(2, ptr (some sb))] = some (fdC newA.at ++ woT newA 0 ⟨[], none, 0, sb⟩).toArray := by kernel_rfl
set_option maxHeartbeats 2000000 in
theorem wnew_ct (L : List SP) : Ct Try.prog 8 #[] (L) (fun wb : Nat => .pointer (some ⟨wb, 0, none⟩)) (fun wb : Nat => WorldP wb newA :: L) := by
  refine Ct.of (vs := []) Try.func8 rfl rfl [] (by repeat (first | exact trivial | refine ⟨rfl, ?_⟩)) ?_
  intro E
  show Hd E 4 _ _ _ _
  refine Hd.seq (fun K1 hK1 => ?_)
  refine Hd.region ?_
  refine Hd.yv (y_assign rfl) ?_
  refine Hd.nil ?_
  refine Hd.slots [] trivial ?_
  refine Hd.toK hK1 ?_
  refine Hd.seq (fun K2 hK2 => ?_)
  refine Hd.region ?_
  refine Hd.callE rfl fk33 (signew_ct _) (Ent.sep enn) ?_
  intro sb
  refine Hd.yv (y_build (vs := [(2, _)]) rfl (bd_world sb)) ?_
  refine Hd.box (us := fdC newA.at ++ woT newA 0 ⟨[], none, 0, sb⟩) rfl rfl (fun b3 => ?_)
  refine Hd.yv (y_assign rfl) ?_
  refine Hd.nil ?_
  refine Hd.slots [(0, _)] ⟨rfl, trivial⟩ ?_
  refine Hd.toK hK2 ?_
  refine Hd.ret ?_
  clear hK1 hK2
  refine Hd.heap (Wires [] :: pt b3 (fdC newA.at ++ woT newA 0 ⟨[], none, 0, sb⟩) 80 :: SigP sb (List.replicate 32 false) (List.replicate 32 0) :: L) (fun k s => ws_nil s) ?_
  exact Hd.ret1 rfl b3 rfl (Ent.sep (.ex ⟨[], none, 0, sb⟩ (.pure ⟨newA_ok, rfl⟩ (.eq pkk (pt_eq (by rfl)) (.ownNil enn)))))
set_option maxHeartbeats 2000000 in
theorem wnone_ct (L : List SP) (wb : Nat) (t : Int → Option (Nat × Nat)) (w : WA) (n : Nat) (i : WoI) : Ct Try.prog 52 #[.pointer (some ⟨wb, 0, none⟩)] (WoH wb t w n i :: L) (fun _ : Unit => .bool false) (fun _ : Unit => WoH wb t w n i :: L) := by
  refine Ct.of (vs := [.pointer (some ⟨wb, 0, none⟩)]) Try.func52 rfl rfl [(0, .pointer (some ⟨wb, 0, none⟩))] (by repeat (first | exact trivial | refine ⟨rfl, ?_⟩)) ?_
  intro E
  show Hd E 12 _ _ _ _
  refine Hd.seq (fun K1 hK1 => ?_)
  refine Hd.region ?_
  refine Hd.yv (y_assign rfl) ?_
  refine Hd.nil ?_
  refine Hd.slots [(0, _)] ⟨rfl, trivial⟩ ?_
  refine Hd.toK hK1 ?_
  refine Hd.seq (fun K2 hK2 => ?_)
  refine Hd.region ?_
  refine Hd.yv (y_move rfl) ?_
  first | (refine Hd.yv (y_eql_pointer Try.underlying27 rfl rfl) ?_) | (refine Hd.yv (y_eql_one Try.underlying27 sz80 rfl rfl rfl) ?_)
  refine Hd.yv (y_move rfl) ?_
  refine Hd.yg rfl rfl (y_move rfl) ?_
  refine Hd.yg rfl rfl (y_nilp rfl) ?_
  first | (refine Hd.yg rfl rfl (y_field' (q := 289) (ft := 72) Try.underlying80 rfl sz72 rfl rfl) ?_) | (refine Hd.yg rfl rfl (y_fieldR (q := 289) (ft := 72) Try.underlying80 rfl sz72 rfl rfl) ?_)
  first | (refine Hd.yg rfl rfl (y_load1 ag72 rfl (Rd.pt1 pkk (by (first | (rw [List.getElem?_append_right (by rw [fdC_len]; omega), fdC_len]; rfl) | rfl)))) ?_) | (refine Hd.yg rfl rfl (y_load1 ag72 rfl (Rd.seg1 pkk (by (first | (rw [List.getElem?_append_right (by rw [fdC_len]; omega), fdC_len]; rfl) | rfl)))) ?_) | (refine Hd.yg rfl rfl (y_loadR1 ag72 rfl (by (first | exact RdS.own pkk)) (by (first | (rw [List.getElem?_append_right (by rw [fdC_len]; omega), fdC_len]; rfl) | rfl))) ?_)
  first | (refine Hd.yg rfl rfl (y_eql_pointer Try.underlying72 rfl rfl) ?_) | (refine Hd.yg rfl rfl (y_eql_one Try.underlying72 sz131 rfl rfl rfl) ?_)
  first | (refine Hd.yv (y_pickT rfl rfl) ?_) | (refine Hd.yv (y_pickF rfl rfl) ?_) | (refine Hd.yv (y_pickb rfl rfl rfl) ?_) | (refine Hd.yv (y_pick rfl rfl rfl) ?_)
  refine Hd.yv (y_assign rfl) ?_
  refine Hd.nil ?_
  refine Hd.slots [(2, _)] ⟨rfl, trivial⟩ ?_
  refine Hd.toK hK2 ?_
  refine Hd.ret ?_
  clear hK1 hK2
  exact Hd.ret1 rfl () (by first | rfl | (simp only [*]; done) | (simp [*]; done)) (Ent.sep enn)
def fdErr (o : Option (Nat × Nat)) : Int := if o.isSome then 0 else 110
def wfb (i : WoI) (o : Option (Nat × Nat)) : Option Nat := o.bind fun p => (i.rs[p.1]?).map Prod.fst
theorem fdC_at0 {t : Int → Option (Nat × Nat)} {tl : List Value} {fd j : Nat} {v : Value} (hf : fd < 96) (hv : (plc (t (fd : Int)))[j]? = some v) : (fdC t ++ tl)[0 + 0 + fd * 3 + j]? = some v := fdC_at hf (by omega) hv
theorem plc0 (o : Option (Nat × Nat)) : (plc o)[0]? = some (.bool o.isSome) := by cases o <;> rfl
theorem rs_at {w : WA} {i : WoI} (h : i.rs.map Prod.snd = w.ws) {n : Nat} {x : WireA} (hn : w.ws[n]? = some x) : ∃ b, i.rs[n]? = some (b, x) := by
  rw [← h, List.getElem?_map] at hn
  cases hr : i.rs[n]? with
  | none => rw [hr] at hn; cases hn
  | some p => rw [hr] at hn; obtain ⟨b, y⟩ := p; obtain rfl := Option.some.inj hn; exact ⟨b, rfl⟩
theorem pws_at {i : WoI} {n b : Nat} {x : WireA} (h : i.rs[n]? = some (b, x)) : (pws i.rs)[n * 1]? = some (ptr (some b)) := by rw [Nat.mul_one, List.getElem?_map, h]; rfl
theorem wfb_eq {i : WoI} {n k b : Nat} {x : WireA} (h : i.rs[n]? = some (b, x)) : wfb i (some (n, k)) = some b := by
  show ((i.rs[n]?).map Prod.fst) = _
  rw [h]; rfl
set_option maxHeartbeats 2000000 in
theorem find_ct (L : List SP) (wb : Nat) (w : WA) (i : WoI) (hw : WOk w) (hrs : i.rs.map Prod.snd = w.ws) (fd : Int) : Ct Try.prog 46 #[.pointer (some ⟨wb, 0, none⟩), .int .i64 fd] (WoL wb w i L) (fun _ : Unit => .tuple #[.agg (plc (w.at fd)).toArray, ptr (wfb i (w.at fd)), .int .i64 (fdErr (w.at fd))]) (fun _ : Unit => WoL wb w i L) := by
  refine Ct.of (vs := [.pointer (some ⟨wb, 0, none⟩), .int .i64 fd]) Try.func46 rfl rfl [(0, .pointer (some ⟨wb, 0, none⟩)), (1, .int .i64 fd)] (by repeat (first | exact trivial | refine ⟨rfl, ?_⟩)) ?_
  intro E
  show Hd E 48 _ _ _ _
  refine Hd.seq (fun K1 hK1 => ?_)
  refine Hd.region ?_
  refine Hd.alloc zr75 (fun b4 => ?_)
  refine Hd.yv (y_assign rfl) ?_
  refine Hd.yv (y_assign rfl) ?_
  refine Hd.nil ?_
  refine Hd.slots [(0, _), (1, _), (4, _)] ⟨rfl, rfl, rfl, trivial⟩ ?_
  refine Hd.toK hK1 ?_
  refine Hd.seq (fun K2 hK2 => ?_)
  refine Hd.block ?_
  refine Hd.seq (fun K3 hK3 => ?_)
  refine Hd.region ?_
  refine Hd.yv (y_move rfl) ?_
  refine Hd.callE rfl fk52 (wnone_ct _ wb w.at w i.rs.length i) (Ent.sep enn) ?_
  intro _
  refine Hd.yv (y_assign rfl) ?_
  refine Hd.nil ?_
  refine Hd.slots [(0, _), (1, _), (4, _), (7, _)] ⟨rfl, rfl, rfl, rfl, trivial⟩ ?_
  refine Hd.toK hK3 ?_
  refine Hd.condF rfl ?_
  refine Hd.seq (fun K4 hK4 => ?_)
  refine Hd.region ?_
  refine Hd.yv (y_move rfl) ?_
  refine Hd.yv (y_lss rfl rfl) ?_
  refine Hd.yv (y_move rfl) ?_
  apply Hd.org 3 14 17 [(0, _), (1, _), (4, _)] rfl ⟨rfl, rfl, rfl, trivial⟩
  · intro hg3_14
    try simp only [decide_eq_true_eq, decide_eq_false_iff_not, Bool.and_eq_true, Bool.or_eq_true, Bool.and_eq_false_iff, Bool.or_eq_false_iff, Bool.not_eq_true', Bool.not_eq_false', Bool.not_eq_true, Bool.not_eq_false, Int.not_lt, Int.not_le, Decidable.not_not, ne_eq] at hg3_14
    simp only [List.take]
    refine Hd.ng rfl rfl rfl ?_
    refine Hd.ng rfl rfl rfl ?_
    first | (refine Hd.yv (y_pickT rfl rfl) ?_) | (refine Hd.yv (y_pickF rfl rfl) ?_) | (refine Hd.yv (y_pickb rfl rfl rfl) ?_) | (refine Hd.yv (y_pick rfl rfl rfl) ?_)
    refine Hd.nil ?_
    exact Hd.mend (by repeat (first | exact trivial | refine ⟨rfl, ?_⟩)) (Ent.sep enn)
  · intro hg3_14
    try simp only [decide_eq_true_eq, decide_eq_false_iff_not, Bool.and_eq_true, Bool.or_eq_true, Bool.and_eq_false_iff, Bool.or_eq_false_iff, Bool.not_eq_true', Bool.not_eq_false', Bool.not_eq_true, Bool.not_eq_false, Int.not_lt, Int.not_le, Decidable.not_not, ne_eq] at hg3_14
    simp only [List.take]
    refine Hd.yg rfl rfl (y_move rfl) ?_
    refine Hd.yg rfl rfl (y_gtr rfl rfl) ?_
    first | (refine Hd.yv (y_pickT rfl rfl) ?_) | (refine Hd.yv (y_pickF rfl rfl) ?_) | (refine Hd.yv (y_pickb rfl rfl rfl) ?_) | (refine Hd.yv (y_pick rfl rfl rfl) ?_)
    refine Hd.nil ?_
    exact Hd.mend (by repeat (first | exact trivial | refine ⟨rfl, ?_⟩)) (Ent.sep enn)
  simp only [List.drop]
  refine Hd.yv (y_move rfl) ?_
  apply Hd.org 9 18 27 [(0, _), (1, _), (4, _)] rfl ⟨rfl, rfl, rfl, trivial⟩
  · intro hg3_18
    try simp only [decide_eq_true_eq, decide_eq_false_iff_not, Bool.and_eq_true, Bool.or_eq_true, Bool.and_eq_false_iff, Bool.or_eq_false_iff, Bool.not_eq_true', Bool.not_eq_false', Bool.not_eq_true, Bool.not_eq_false, Int.not_lt, Int.not_le, Decidable.not_not, ne_eq] at hg3_18
    simp only [List.take]
    refine Hd.ng rfl rfl rfl ?_
    refine Hd.ng rfl rfl rfl ?_
    refine Hd.ng rfl rfl rfl ?_
    refine Hd.ng rfl rfl rfl ?_
    refine Hd.ng rfl rfl rfl ?_
    refine Hd.ng rfl rfl rfl ?_
    refine Hd.ng rfl rfl rfl ?_
    refine Hd.ng rfl rfl rfl ?_
    first | (refine Hd.yv (y_pickT rfl rfl) ?_) | (refine Hd.yv (y_pickF rfl rfl) ?_) | (refine Hd.yv (y_pickb rfl rfl rfl) ?_) | (refine Hd.yv (y_pick rfl rfl rfl) ?_)
    refine Hd.nil ?_
    exact Hd.mend (by repeat (first | exact trivial | refine ⟨rfl, ?_⟩)) (Ent.sep enn)
  · intro hg3_18
    try simp only [decide_eq_true_eq, decide_eq_false_iff_not, Bool.and_eq_true, Bool.or_eq_true, Bool.and_eq_false_iff, Bool.or_eq_false_iff, Bool.not_eq_true', Bool.not_eq_false', Bool.not_eq_true, Bool.not_eq_false, Int.not_lt, Int.not_le, Decidable.not_not, ne_eq] at hg3_18
    simp only [List.take]
    refine Hd.yg rfl rfl (y_move rfl) ?_
    refine Hd.yg rfl rfl (y_move rfl) ?_
    refine Hd.yg rfl rfl (y_nilp rfl) ?_
    first | (refine Hd.yg rfl rfl (y_field' (q := 0) (ft := 76) Try.underlying80 rfl sz76 rfl rfl) ?_) | (refine Hd.yg rfl rfl (y_fieldR (q := 0) (ft := 76) Try.underlying80 rfl sz76 rfl rfl) ?_)
    refine Hd.yg rfl rfl (y_idxA (j := fd.toNat) Try.underlying76 sz75 rfl (by exact congrArg (fun z => some (Value.int .i64 z)) (Int.toNat_of_nonneg (show 0 ≤ fd by omega)).symm) (by omega)) ?_
    first | (refine Hd.yg rfl rfl (y_field' (q := 0) (ft := 4) Try.underlying75 rfl sz4 rfl rfl) ?_) | (refine Hd.yg rfl rfl (y_fieldR (q := 0) (ft := 4) Try.underlying75 rfl sz4 rfl rfl) ?_)
    first | (refine Hd.yg rfl rfl (y_load1 ag4 rfl (Rd.pt1 pkk (by (first | exact fdC_at (fd := fd.toNat) (by omega) (show 0 + 0 + fd.toNat * 3 + 0 = fd.toNat * 3 + 0 by omega) (by rw [show ((fd.toNat : Nat) : Int) = fd by omega]; exact plc0 _) | (rw [List.getElem?_append_right (by rw [fdC_len]; omega), fdC_len]; rfl) | exact fdC_at (j := 1) hf96 (by omega) (by rw [hp]; rfl) | exact pws_at hb | rfl)))) ?_) | (refine Hd.yg rfl rfl (y_load1 ag4 rfl (Rd.seg1 pkk (by (first | exact fdC_at (fd := fd.toNat) (by omega) (show 0 + 0 + fd.toNat * 3 + 0 = fd.toNat * 3 + 0 by omega) (by rw [show ((fd.toNat : Nat) : Int) = fd by omega]; exact plc0 _) | (rw [List.getElem?_append_right (by rw [fdC_len]; omega), fdC_len]; rfl) | exact fdC_at (j := 1) hf96 (by omega) (by rw [hp]; rfl) | exact pws_at hb | rfl)))) ?_) | (refine Hd.yg rfl rfl (y_loadR1 ag4 rfl (by (first | exact RdS.own pkk)) (by (first | exact fdC_at (fd := fd.toNat) (by omega) (show 0 + 0 + fd.toNat * 3 + 0 = fd.toNat * 3 + 0 by omega) (by rw [show ((fd.toNat : Nat) : Int) = fd by omega]; exact plc0 _) | (rw [List.getElem?_append_right (by rw [fdC_len]; omega), fdC_len]; rfl) | exact fdC_at (j := 1) hf96 (by omega) (by rw [hp]; rfl) | exact pws_at hb | rfl))) ?_)
    refine Hd.yg rfl rfl (y_not rfl) ?_
    first | (refine Hd.yv (y_pickT rfl rfl) ?_) | (refine Hd.yv (y_pickF rfl rfl) ?_) | (refine Hd.yv (y_pickb rfl rfl rfl) ?_) | (refine Hd.yv (y_pick rfl rfl rfl) ?_)
    refine Hd.nil ?_
    exact Hd.mend (by repeat (first | exact trivial | refine ⟨rfl, ?_⟩)) (Ent.sep enn)
  simp only [List.drop]
  refine Hd.yv (y_assign rfl) ?_
  refine Hd.nil ?_
  refine Hd.slots [(0, _), (1, _), (4, _), (11, _)] ⟨rfl, rfl, rfl, rfl, trivial⟩ ?_
  refine Hd.toK hK4 ?_
  refine Hd.cond rfl (fun hc1 => ?_) (fun hc1 => ?_)
  ·
    try simp only [decide_eq_true_eq, decide_eq_false_iff_not, Bool.and_eq_true, Bool.or_eq_true, Bool.and_eq_false_iff, Bool.or_eq_false_iff, Bool.not_eq_true', Bool.not_eq_false', Bool.not_eq_true, Bool.not_eq_false, Int.not_lt, Int.not_le, Decidable.not_not, ne_eq] at hc1
    have hno : w.at fd = none := by
      cases h : w.at fd with
      | none => rfl
      | some p =>
        obtain ⟨n, k⟩ := p
        have h1 := hw.at_lt h
        exfalso
        rcases hc1 with (h2 | h2) | h2
        · omega
        · omega
        · rw [h] at h2; cases h2
    refine Hd.seq (fun K5 hK5 => ?_)
    refine Hd.region ?_
    refine Hd.yv (y_build (cs := (plc none).toArray) (vs := []) rfl (by kernel_rfl)) ?_
    refine Hd.storeA (us := plc none) sz75 rfl rfl rfl (plc_one _) pkk (by exact rfl) ?_
    refine Hd.yv (y_assign rfl) ?_
    refine Hd.yv (y_assign rfl) ?_
    refine Hd.nil ?_
    refine Hd.slots [(4, _), (5, _), (6, _)] ⟨rfl, rfl, rfl, trivial⟩ ?_
    refine Hd.toK hK5 ?_
    refine Hd.ret ?_
    refine Hd.inBret ?_
    refine Hd.thenRet ?_
    clear hK1 hK2 hK3 hK4 hK5
    exact Hd.retCTT rfl () ag75 rfl rfl rfl (Rd.pt pkk (fun j v e => by rw [Nat.zero_add]; exact e)) (by exact sz75) (by rw [hno]; rfl) (Ent.sep enn)
  ·
    try simp only [decide_eq_true_eq, decide_eq_false_iff_not, Bool.and_eq_true, Bool.or_eq_true, Bool.and_eq_false_iff, Bool.or_eq_false_iff, Bool.not_eq_true', Bool.not_eq_false', Bool.not_eq_true, Bool.not_eq_false, Int.not_lt, Int.not_le, Decidable.not_not, ne_eq] at hc1
    have hf0 : 0 ≤ fd ∧ fd ≤ 95 := by omega
    obtain ⟨n, k, hnk⟩ : ∃ n k, w.at fd = some (n, k) := by
      cases h : w.at fd with
      | none => rw [h] at hc1; exact absurd hc1.2 (by simp)
      | some p => exact ⟨p.1, p.2, rfl⟩
    obtain ⟨_, _, hk, hn, x, hx, _, _⟩ := hw.at_lt hnk
    obtain ⟨b, hb⟩ := rs_at hrs hx
    have hnl : n < i.rs.length := (List.getElem?_eq_some_iff.1 hb).1
    obtain ⟨f, hf⟩ : ∃ f : Nat, fd = (f : Int) := ⟨fd.toNat, by omega⟩
    subst hf
    have hf96 : f < 96 := by omega
    have hp : plc (w.at (f : Int)) = [.bool true, .int .i64 (n : Int), .int .i64 (k : Int)] := by rw [hnk]; rfl
    refine Hd.skip ?_
    refine Hd.inB ?_
    refine Hd.toK hK2 ?_
    refine Hd.seq (fun K6 hK6 => ?_)
    refine Hd.drawsH ([WoH wb w.at w i.rs.length i, own 81 1 i.wa i.rs.length i.wc (pws i.rs)]) (fun j => !(([1000] : List Nat).contains j)) mixed ?_
    simp only [List.length, Nat.zero_add, Nat.reduceAdd]
    refine Hd.takeH 0 rfl (by kernel_rfl) (by kernel_rfl) (by kernel_rfl) (by kernel_rfl) (y_move rfl) (fun _ _ => rfl) (Ent.sep enn) ?_
    refine Hd.takeH 1 rfl (by kernel_rfl) (by kernel_rfl) (by kernel_rfl) (by kernel_rfl) (y_move rfl) (fun _ _ => rfl) (Ent.sep enn) ?_
    refine Hd.takeH 2 rfl (by kernel_rfl) (by kernel_rfl) (by kernel_rfl) (by kernel_rfl) (y_nilp rfl) (fun _ _ => rfl) (Ent.sep enn) ?_
    first | (refine Hd.takeH 3 rfl (by kernel_rfl) (by kernel_rfl) (by kernel_rfl) (by kernel_rfl) (y_field' (q := 0) (ft := 76) Try.underlying80 rfl sz76 rfl rfl) (fun _ _ => rfl) (Ent.sep enn) ?_) | (refine Hd.takeH 3 rfl (by kernel_rfl) (by kernel_rfl) (by kernel_rfl) (by kernel_rfl) (y_fieldR (q := 0) (ft := 76) Try.underlying80 rfl sz76 rfl rfl) (fun _ _ => rfl) (Ent.sep enn) ?_)
    first | (refine Hd.takeH 4 rfl (by kernel_rfl) (by kernel_rfl) (by kernel_rfl) (by kernel_rfl) (y_idxA Try.underlying76 sz75 rfl rfl (by first | omega | decide)) (fun _ _ => rfl) (Ent.sep enn) ?_) | (refine Hd.takeH 4 rfl (by kernel_rfl) (by kernel_rfl) (by kernel_rfl) (by kernel_rfl) (y_idxAR Try.underlying76 sz75 rfl rfl (by first | omega | decide)) (fun _ _ => rfl) (Ent.sep enn) ?_)
    refine Hd.takeH 5 rfl (by kernel_rfl) (by kernel_rfl) (by kernel_rfl) (by kernel_rfl) (y_loadn (us := [.bool true, .int .i64 (n : Int), .int .i64 (k : Int)]) ag75 rfl (Rd.pt pkk (fun j v e => fdC_at0 hf96 (by rw [hp]; exact e))) (by exact sz75)) (fun _ _ => rfl) (Ent.sep enn) ?_
    refine Hd.takeH 6 rfl (by kernel_rfl) (by kernel_rfl) (by kernel_rfl) (by kernel_rfl) (y_move rfl) (fun _ _ => rfl) (Ent.sep enn) ?_
    refine Hd.takeH 7 rfl (by kernel_rfl) (by kernel_rfl) (by kernel_rfl) (by kernel_rfl) (y_nilp rfl) (fun _ _ => rfl) (Ent.sep enn) ?_
    first | (refine Hd.takeH 8 rfl (by kernel_rfl) (by kernel_rfl) (by kernel_rfl) (by kernel_rfl) (y_field' (q := 288) (ft := 77) Try.underlying80 rfl sz77 rfl rfl) (fun _ _ => rfl) (Ent.sep enn) ?_) | (refine Hd.takeH 8 rfl (by kernel_rfl) (by kernel_rfl) (by kernel_rfl) (by kernel_rfl) (y_fieldR (q := 288) (ft := 77) Try.underlying80 rfl sz77 rfl rfl) (fun _ _ => rfl) (Ent.sep enn) ?_)
    first | (refine Hd.takeH 9 rfl (by kernel_rfl) (by kernel_rfl) (by kernel_rfl) (by kernel_rfl) (y_load1 ag77 rfl (Rd.pt1 pkk (by (first | exact fdC_at (fd := fd.toNat) (by omega) (show 0 + 0 + fd.toNat * 3 + 0 = fd.toNat * 3 + 0 by omega) (by rw [show ((fd.toNat : Nat) : Int) = fd by omega]; exact plc0 _) | (rw [List.getElem?_append_right (by rw [fdC_len]; omega), fdC_len]; rfl) | exact fdC_at (j := 1) hf96 (by omega) (by rw [hp]; rfl) | exact pws_at hb | rfl)))) (fun _ _ => rfl) (Ent.sep enn) ?_) | (refine Hd.takeH 9 rfl (by kernel_rfl) (by kernel_rfl) (by kernel_rfl) (by kernel_rfl) (y_load1 ag77 rfl (Rd.seg1 pkk (by (first | exact fdC_at (fd := fd.toNat) (by omega) (show 0 + 0 + fd.toNat * 3 + 0 = fd.toNat * 3 + 0 by omega) (by rw [show ((fd.toNat : Nat) : Int) = fd by omega]; exact plc0 _) | (rw [List.getElem?_append_right (by rw [fdC_len]; omega), fdC_len]; rfl) | exact fdC_at (j := 1) hf96 (by omega) (by rw [hp]; rfl) | exact pws_at hb | rfl)))) (fun _ _ => rfl) (Ent.sep enn) ?_) | (refine Hd.takeH 9 rfl (by kernel_rfl) (by kernel_rfl) (by kernel_rfl) (by kernel_rfl) (y_loadR1 ag77 rfl (by (first | exact RdS.own pkk)) (by (first | exact fdC_at (fd := fd.toNat) (by omega) (show 0 + 0 + fd.toNat * 3 + 0 = fd.toNat * 3 + 0 by omega) (by rw [show ((fd.toNat : Nat) : Int) = fd by omega]; exact plc0 _) | (rw [List.getElem?_append_right (by rw [fdC_len]; omega), fdC_len]; rfl) | exact fdC_at (j := 1) hf96 (by omega) (by rw [hp]; rfl) | exact pws_at hb | rfl))) (fun _ _ => rfl) (Ent.sep enn) ?_)
    refine Hd.takeH 10 rfl (by kernel_rfl) (by kernel_rfl) (by kernel_rfl) (by kernel_rfl) (y_move rfl) (fun _ _ => rfl) (Ent.sep enn) ?_
    refine Hd.takeH 11 rfl (by kernel_rfl) (by kernel_rfl) (by kernel_rfl) (by kernel_rfl) (y_move rfl) (fun _ _ => rfl) (Ent.sep enn) ?_
    refine Hd.takeH 12 rfl (by kernel_rfl) (by kernel_rfl) (by kernel_rfl) (by kernel_rfl) (y_nilp rfl) (fun _ _ => rfl) (Ent.sep enn) ?_
    first | (refine Hd.takeH 13 rfl (by kernel_rfl) (by kernel_rfl) (by kernel_rfl) (by kernel_rfl) (y_field' (q := 0) (ft := 76) Try.underlying80 rfl sz76 rfl rfl) (fun _ _ => rfl) (Ent.sep enn) ?_) | (refine Hd.takeH 13 rfl (by kernel_rfl) (by kernel_rfl) (by kernel_rfl) (by kernel_rfl) (y_fieldR (q := 0) (ft := 76) Try.underlying80 rfl sz76 rfl rfl) (fun _ _ => rfl) (Ent.sep enn) ?_)
    first | (refine Hd.takeH 14 rfl (by kernel_rfl) (by kernel_rfl) (by kernel_rfl) (by kernel_rfl) (y_idxA Try.underlying76 sz75 rfl rfl (by first | omega | decide)) (fun _ _ => rfl) (Ent.sep enn) ?_) | (refine Hd.takeH 14 rfl (by kernel_rfl) (by kernel_rfl) (by kernel_rfl) (by kernel_rfl) (y_idxAR Try.underlying76 sz75 rfl rfl (by first | omega | decide)) (fun _ _ => rfl) (Ent.sep enn) ?_)
    first | (refine Hd.takeH 15 rfl (by kernel_rfl) (by kernel_rfl) (by kernel_rfl) (by kernel_rfl) (y_field' (q := 1) (ft := 3) Try.underlying75 rfl sz3 rfl rfl) (fun _ _ => rfl) (Ent.sep enn) ?_) | (refine Hd.takeH 15 rfl (by kernel_rfl) (by kernel_rfl) (by kernel_rfl) (by kernel_rfl) (y_fieldR (q := 1) (ft := 3) Try.underlying75 rfl sz3 rfl rfl) (fun _ _ => rfl) (Ent.sep enn) ?_)
    first | (refine Hd.takeH 16 rfl (by kernel_rfl) (by kernel_rfl) (by kernel_rfl) (by kernel_rfl) (y_load1 ag3 rfl (Rd.pt1 pkk (by (first | exact fdC_at (fd := fd.toNat) (by omega) (show 0 + 0 + fd.toNat * 3 + 0 = fd.toNat * 3 + 0 by omega) (by rw [show ((fd.toNat : Nat) : Int) = fd by omega]; exact plc0 _) | (rw [List.getElem?_append_right (by rw [fdC_len]; omega), fdC_len]; rfl) | exact fdC_at (j := 1) hf96 (by omega) (by rw [hp]; rfl) | exact pws_at hb | rfl)))) (fun _ _ => rfl) (Ent.sep enn) ?_) | (refine Hd.takeH 16 rfl (by kernel_rfl) (by kernel_rfl) (by kernel_rfl) (by kernel_rfl) (y_load1 ag3 rfl (Rd.seg1 pkk (by (first | exact fdC_at (fd := fd.toNat) (by omega) (show 0 + 0 + fd.toNat * 3 + 0 = fd.toNat * 3 + 0 by omega) (by rw [show ((fd.toNat : Nat) : Int) = fd by omega]; exact plc0 _) | (rw [List.getElem?_append_right (by rw [fdC_len]; omega), fdC_len]; rfl) | exact fdC_at (j := 1) hf96 (by omega) (by rw [hp]; rfl) | exact pws_at hb | rfl)))) (fun _ _ => rfl) (Ent.sep enn) ?_) | (refine Hd.takeH 16 rfl (by kernel_rfl) (by kernel_rfl) (by kernel_rfl) (by kernel_rfl) (y_loadR1 ag3 rfl (by (first | exact RdS.own pkk)) (by (first | exact fdC_at (fd := fd.toNat) (by omega) (show 0 + 0 + fd.toNat * 3 + 0 = fd.toNat * 3 + 0 by omega) (by rw [show ((fd.toNat : Nat) : Int) = fd by omega]; exact plc0 _) | (rw [List.getElem?_append_right (by rw [fdC_len]; omega), fdC_len]; rfl) | exact fdC_at (j := 1) hf96 (by omega) (by rw [hp]; rfl) | exact pws_at hb | rfl))) (fun _ _ => rfl) (Ent.sep enn) ?_)
    first | (refine Hd.takeH 17 rfl (by kernel_rfl) (by kernel_rfl) (by kernel_rfl) (by kernel_rfl) (y_idxS Try.underlying77 sz81 rfl rfl (by first | omega | decide)) (fun _ _ => rfl) (Ent.sep enn) ?_) | (refine Hd.takeH 17 rfl (by kernel_rfl) (by kernel_rfl) (by kernel_rfl) (by kernel_rfl) (y_idxR Try.underlying77 sz81 rfl rfl (by first | omega | decide) (by (first | exact RdS.own pkk))) (fun _ _ => rfl) (Ent.sep enn) ?_)
    first | (refine Hd.takeH 18 rfl (by kernel_rfl) (by kernel_rfl) (by kernel_rfl) (by kernel_rfl) (y_load1 ag81 rfl (Rd.pt1 pkk (by (first | exact fdC_at (fd := fd.toNat) (by omega) (show 0 + 0 + fd.toNat * 3 + 0 = fd.toNat * 3 + 0 by omega) (by rw [show ((fd.toNat : Nat) : Int) = fd by omega]; exact plc0 _) | (rw [List.getElem?_append_right (by rw [fdC_len]; omega), fdC_len]; rfl) | exact fdC_at (j := 1) hf96 (by omega) (by rw [hp]; rfl) | exact pws_at hb | rfl)))) (fun _ _ => rfl) (Ent.sep enn) ?_) | (refine Hd.takeH 18 rfl (by kernel_rfl) (by kernel_rfl) (by kernel_rfl) (by kernel_rfl) (y_load1 ag81 rfl (Rd.seg1 pkk (by (first | exact fdC_at (fd := fd.toNat) (by omega) (show 0 + 0 + fd.toNat * 3 + 0 = fd.toNat * 3 + 0 by omega) (by rw [show ((fd.toNat : Nat) : Int) = fd by omega]; exact plc0 _) | (rw [List.getElem?_append_right (by rw [fdC_len]; omega), fdC_len]; rfl) | exact fdC_at (j := 1) hf96 (by omega) (by rw [hp]; rfl) | exact pws_at hb | rfl)))) (fun _ _ => rfl) (Ent.sep enn) ?_) | (refine Hd.takeH 18 rfl (by kernel_rfl) (by kernel_rfl) (by kernel_rfl) (by kernel_rfl) (y_loadR1 ag81 rfl (by (first | exact RdS.own pkk)) (by (first | exact fdC_at (fd := fd.toNat) (by omega) (show 0 + 0 + fd.toNat * 3 + 0 = fd.toNat * 3 + 0 by omega) (by rw [show ((fd.toNat : Nat) : Int) = fd by omega]; exact plc0 _) | (rw [List.getElem?_append_right (by rw [fdC_len]; omega), fdC_len]; rfl) | exact fdC_at (j := 1) hf96 (by omega) (by rw [hp]; rfl) | exact pws_at hb | rfl))) (fun _ _ => rfl) (Ent.sep enn) ?_)
    refine Hd.onlyH 19 rfl (by kernel_rfl) ?_
    refine Hd.storeA (us := [.bool true, .int .i64 (n : Int), .int .i64 (k : Int)]) sz75 rfl rfl rfl (by simp [Value.oneCell']) pkk (by exact rfl) ?_
    refine Hd.nil ?_
    refine Hd.thenN ?_
    refine Hd.heldK (J := (fun j => !(([1000] : List Nat).contains j))) (i := 19) (Ent.sep enn) ?_
    refine Hd.takeH 20 rfl (by kernel_rfl) (by kernel_rfl) (by kernel_rfl) (by kernel_rfl) (y_assign rfl) (fun _ _ => rfl) (Ent.sep enn) ?_
    refine Hd.takeH 21 rfl (by kernel_rfl) (by kernel_rfl) (by kernel_rfl) (by kernel_rfl) (y_assign rfl) (fun _ _ => rfl) (Ent.sep enn) ?_
    refine Hd.endH (by kernel_rfl) ?_
    refine Hd.slots [(4, _), (5, _), (6, _)] ⟨rfl, rfl, rfl, trivial⟩ ?_
    refine Hd.toK hK6 ?_
    refine Hd.ret ?_
    clear hK1 hK2 hK3 hK4 hK6
    exact Hd.retCTT rfl () ag75 rfl rfl rfl (Rd.pt (us := [.bool true, .int .i64 (n : Int), .int .i64 (k : Int)]) pkk (fun j v e => by rw [Nat.zero_add]; exact e)) (by exact sz75) (by rw [hnk, wfb_eq hb]; rfl) (Ent.sep enn)
end Wo
end Go.Proofs.Ytbfddabjbkohdaa
namespace Go.Proofs.Ytbfddabjbkohdaa
set_option linter.unusedSimpArgs false
set_option linter.unusedVariables false
set_option linter.unnecessarySimpa false
open Go.RX Fx
namespace Wo
set_option maxRecDepth 8000
def WA.setW (w : WA) (n : Nat) (x : WireA) : WA := { w with ws := w.ws.set n x }
structure SmW (x x' : WireA) : Prop where
  e : ∀ k, k < 2 → (x'.e k).what = (x.e k).what ∧ (x'.e k).fd = (x.e k).fd ∧ (x'.e k).rd = (x.e k).rd ∧ (x'.e k).wr = (x.e k).wr
  wt : x'.wt = x.wt
  bl : x'.bl = x.bl
  cap : x'.cap = x.cap
  le : ∀ k, k < 2 → (x'.e k).b.length ≤ x.cap
  nb : ∀ k, k < 2 → (x.e k).rd = false → (x'.e k).b = []
theorem set_at {α : Type} {l : List α} {n m : Nat} {x y : α} (h : (l.set n x)[m]? = some y) : (m = n ∧ y = x) ∨ (m ≠ n ∧ l[m]? = some y) := by
  by_cases e : m = n
  · subst e
    have hl : m < l.length := by have := (List.getElem?_eq_some_iff.1 h).1; rwa [List.length_set] at this
    rw [List.getElem?_set_self hl] at h
    exact .inl ⟨rfl, (Option.some.inj h).symm⟩
  · rw [List.getElem?_set_ne (Ne.symm e)] at h; exact .inr ⟨e, h⟩
theorem flatMap_set {α β : Type} {f : α → List β} : ∀ {l : List α} {n : Nat} {x x' : α}, l[n]? = some x → f x' = f x → (l.set n x').flatMap f = l.flatMap f
  | [], _, _, _, h, _ => by simp at h
  | a :: l, 0, x, x', h, e => by
    obtain rfl : a = x := by simpa using h
    show f x' ++ _ = f a ++ _
    rw [e]
  | a :: l, n + 1, x, x', h, e => by
    show f a ++ (l.set n x').flatMap f = f a ++ l.flatMap f
    rw [flatMap_set (by simpa using h) e]
theorem WOk.setW {w : WA} (h : WOk w) {n : Nat} {x x' : WireA} (hx : w.ws[n]? = some x) (hs : SmW x x') : WOk (w.setW n x') := by
  have hxm := List.mem_of_getElem? hx
  have hwf := h.wf x hxm
  have hfm : (w.setW n x').ws.flatMap WireA.wt = w.ws.flatMap WireA.wt := flatMap_set hx hs.wt
  have hat : ∀ {m : Nat} {y : WireA}, (w.setW n x').ws[m]? = some y → ∃ z, w.ws[m]? = some z ∧ ∀ k, k < 2 → (y.e k).what = (z.e k).what ∧ (y.e k).fd = (z.e k).fd ∧ (y.e k).rd = (z.e k).rd := fun hm => by
    rcases set_at hm with ⟨rfl, rfl⟩ | ⟨_, hm⟩
    · exact ⟨x, hx, fun k hk => ⟨(hs.e k hk).1, (hs.e k hk).2.1, (hs.e k hk).2.2.1⟩⟩
    · exact ⟨_, hm, fun _ _ => ⟨rfl, rfl, rfl⟩⟩
  have hta : ∀ {m : Nat} {z : WireA}, w.ws[m]? = some z → ∃ y, (w.setW n x').ws[m]? = some y ∧ ∀ k, k < 2 → (y.e k).what = (z.e k).what ∧ (y.e k).fd = (z.e k).fd ∧ (y.e k).rd = (z.e k).rd := fun {m} {z} hm => by
    by_cases e : m = n
    · subst e
      rw [hx] at hm; obtain rfl := Option.some.inj hm
      exact ⟨x', by show (w.ws.set m x')[m]? = _; rw [List.getElem?_set_self (List.getElem?_eq_some_iff.1 hx).1], fun k hk => ⟨(hs.e k hk).1, (hs.e k hk).2.1, (hs.e k hk).2.2.1⟩⟩
    · exact ⟨z, by show (w.ws.set n x')[m]? = _; rw [List.getElem?_set_ne (Ne.symm e)]; exact hm, fun _ _ => ⟨rfl, rfl, rfl⟩⟩
  refine ⟨?_, ?_, ?_, h.hdl, h.ctl, ?_, by rw [hfm]; exact h.wn, ?_, ?_, fun m y hm => by
    rcases set_at hm with ⟨rfl, rfl⟩ | ⟨_, hm⟩
    · rw [hs.wt]; exact h.ns _ _ hx
    · exact h.ns _ _ hm⟩
  · intro a b y z k j ha hb hk hj h1 h2 h3
    obtain ⟨y', ha', hy⟩ := hat ha
    obtain ⟨z', hb', hz⟩ := hat hb
    exact h.uq a b y' z' k j ha' hb' hk hj ((hy k hk).1 ▸ h1) ((hz j hj).1 ▸ h2) (by rw [← (hy k hk).2.1, ← (hz j hj).2.1]; exact h3)
  · intro y hy k hk h1
    obtain ⟨m, hm, e⟩ := List.getElem_of_mem hy
    obtain ⟨z, hz, he⟩ := hat (m := m) (y := y) (by rw [List.getElem?_eq_getElem hm, e])
    have := h.fd z (List.mem_of_getElem? hz) k hk ((he k hk).1 ▸ h1)
    rw [(he k hk).2.1]; exact this
  · show (w.ws.set n x').length ≤ 1000; rw [List.length_set]; exact h.len
  · intro y hy
    rcases List.mem_or_eq_of_mem_set hy with hy | rfl
    · exact h.wf y hy
    · exact ⟨fun k hk => by rw [(hs.e k hk).2.2.2, (hs.e (1 - k) (by omega)).2.2.1]; exact hwf.wr k hk, fun k hk => by rw [hs.cap]; exact hs.le k hk, fun k hk hr => hs.nb k hk (by rw [← (hs.e k hk).2.2.1]; exact hr), by rw [hs.cap]; exact hwf.cap, fun k hk => by rw [(hs.e k hk).1]; exact hwf.what k hk, by rw [hs.bl, hs.wt]; exact hwf.bl, fun h1 => by rw [(hs.e 0 (by omega)).2.2.1, (hs.e 1 (by omega)).2.2.1]; exact hwf.ou (by rw [← (hs.e 1 (by omega)).1]; exact h1)⟩
  · intro m hm
    rw [hfm] at hm
    obtain ⟨z, hz, h0⟩ := h.wm m hm
    obtain ⟨y, hy, he⟩ := hta hz
    exact ⟨y, hy, by rw [(he 0 (by omega)).1]; exact h0⟩
  · intro m k hm
    obtain ⟨hk, z, hz, h0, h1⟩ := h.nt m k hm
    obtain ⟨y, hy, he⟩ := hta hz
    exact ⟨hk, y, hy, by rw [(he 0 (by omega)).2.2]; exact h0, by rw [(he 1 (by omega)).2.2]; exact h1⟩
theorem WOk.setW_at {w : WA} (h : WOk w) {n : Nat} {x x' : WireA} (hx : w.ws[n]? = some x) (hs : SmW x x') : (w.setW n x').at = w.at := by
  funext fd
  refine atW_ext (h.setW hx hs).uq h.uq fun m k hk => ?_
  show (∃ y, (w.ws.set n x')[m]? = some y ∧ _) ↔ _
  by_cases e : m = n
  · subst e
    rw [List.getElem?_set_self (List.getElem?_eq_some_iff.1 hx).1, hx]
    have := hs.e k hk
    constructor
    · rintro ⟨y, hy, h1, h2⟩; obtain rfl := Option.some.inj hy; exact ⟨x, rfl, this.1 ▸ h1, this.2.1 ▸ h2⟩
    · rintro ⟨y, hy, h1, h2⟩; obtain rfl := Option.some.inj hy; exact ⟨x', rfl, by rw [this.1]; exact h1, by rw [this.2.1]; exact h2⟩
  · rw [List.getElem?_set_ne (Ne.symm e)]
theorem pws_set {rs : List (Nat × WireA)} {n b : Nat} {x x' : WireA} (h : rs[n]? = some (b, x)) : pws (rs.set n (b, x')) = pws rs := by
  unfold pws
  rw [List.map_set]
  apply List.ext_getElem?
  intro j
  by_cases e : n = j
  · subst e
    rw [List.getElem?_set_self (by rw [List.length_map]; exact (List.getElem?_eq_some_iff.1 h).1), List.getElem?_map, h]; rfl
  · rw [List.getElem?_set_ne e]
theorem world_fold {wb n b : Nat} {w : WA} {i : WoI} {x x' : WireA} {L : List SP} (hw : WOk w) (hrs : i.rs.map Prod.snd = w.ws) (hb : i.rs[n]? = some (b, x)) (hs : SmW x x') :
    ∀ h, sep (WoH wb w.at w i.rs.length i :: own 81 1 i.wa i.rs.length i.wc (pws i.rs) :: SigP i.sb w.hd w.ct :: WireP b x' :: Wires (i.rs.take n) :: Wires (i.rs.drop (n + 1)) :: L) h → sep (WorldP wb (w.setW n x') :: L) h := by
  intro h s
  have hx : w.ws[n]? = some x := by rw [← hrs, List.getElem?_map, hb]; rfl
  have hn := (List.getElem?_eq_some_iff.1 hb).1
  have h1 : sep (WireP b x' :: Wires (i.rs.take n) :: Wires (i.rs.drop (n + 1)) :: WoH wb w.at w i.rs.length i :: own 81 1 i.wa i.rs.length i.wc (pws i.rs) :: SigP i.sb w.hd w.ct :: L) h := Ent.sep enn h s
  have h2 := ws_in hn h1
  have hat := hw.setW_at hx hs
  have hl : (i.rs.set n (b, x')).length = i.rs.length := List.length_set ..
  have hp := pws_set (x' := x') hb
  refine Ent.sep (.ex { i with rs := i.rs.set n (b, x') } (.pure ⟨hw.setW hx hs, by show (i.rs.set n (b, x')).map Prod.snd = w.ws.set n x'; rw [List.map_set, hrs]⟩ ?_)) h h2
  exact .eq pkk (pt_eq (show fdC w.at ++ woT w i.rs.length i = fdC (w.setW n x').at ++ woT (w.setW n x') (i.rs.set n (b, x')).length { i with rs := i.rs.set n (b, x') } by rw [hat, hl]; rfl)) (.eq pkk (own_eq3 hl.symm rfl hp.symm) enn)
theorem Hd.wOut {E : World} {n : Nat} {ds : List Deferred} {st : List (Nat × Value)} {L L' : List SP} {K : Act → World → Prop} {rs : List (Nat × WireA)} {j b : Nat} {x : WireA} (p : Pick L (Wires rs) L') (hj : rs[j]? = some (b, x)) (h : Hd E n ds st (WireP b x :: Wires (rs.take j) :: Wires (rs.drop (j + 1)) :: L') K) : Hd E n ds st L K := Hd.heap _ (fun _ s => ws_out hj (p.sep s)) h
theorem smW_rise {x : WireA} (h : WfW x) (k : Nat) (i o : Bool) : SmW x (x.up k (riseE i o)) := by
  have hb : ∀ j, ((x.up k (riseE i o)).e j).b = (x.e j).b := fun j => by
    by_cases e : j = k
    · subst e; rw [up_at]; rfl
    · rw [up_ne _ _ e]
  refine ⟨fun j _ => ?_, rfl, rfl, rfl, fun j hj => by rw [hb]; exact h.le j hj, fun j hj hr => by rw [hb]; exact h.nb j hj hr⟩
  by_cases e : j = k
  · subst e; rw [up_at]; exact ⟨rfl, rfl, rfl, rfl⟩
  · rw [up_ne _ _ e]; exact ⟨rfl, rfl, rfl, rfl⟩
theorem SmW.wf {x x' : WireA} (hs : SmW x x') (h : WfW x) : WfW x' :=
  ⟨fun k hk => by rw [(hs.e k hk).2.2.2, (hs.e (1 - k) (by omega)).2.2.1]; exact h.wr k hk, fun k hk => by rw [hs.cap]; exact hs.le k hk, fun k hk hr => hs.nb k hk (by rw [← (hs.e k hk).2.2.1]; exact hr), by rw [hs.cap]; exact h.cap, fun k hk => by rw [(hs.e k hk).1]; exact h.what k hk, by rw [hs.bl, hs.wt]; exact h.bl, fun h1 => by rw [(hs.e 0 (by omega)).2.2.1, (hs.e 1 (by omega)).2.2.1]; exact h.ou (by rw [← (hs.e 1 (by omega)).1]; exact h1)⟩
theorem SmW.trans {x y z : WireA} (h1 : SmW x y) (h2 : SmW y z) : SmW x z :=
  ⟨fun k hk => by
    obtain ⟨a1, a2, a3, a4⟩ := h1.e k hk
    obtain ⟨b1, b2, b3, b4⟩ := h2.e k hk
    exact ⟨by rw [b1, a1], by rw [b2, a2], by rw [b3, a3], by rw [b4, a4]⟩, by rw [h2.wt, h1.wt], by rw [h2.bl, h1.bl], by rw [h2.cap, h1.cap], fun k hk => by rw [← h1.cap]; exact h2.le k hk, fun k hk hr => h2.nb k hk (by rw [(h1.e k hk).2.2.1]; exact hr)⟩
theorem smW_bytes {x : WireA} (h : WfW x) {k : Nat} {l : List UInt8} (hl : l.length ≤ x.cap) (hr : (x.e k).rd = true) : SmW x (x.up k fun e => { e with b := l }) := by
  refine ⟨fun j _ => ?_, rfl, rfl, rfl, fun j hj => ?_, fun j hj hf => ?_⟩
  · by_cases e : j = k
    · subst e; rw [up_at]; exact ⟨rfl, rfl, rfl, rfl⟩
    · rw [up_ne _ _ e]; exact ⟨rfl, rfl, rfl, rfl⟩
  · by_cases e : j = k
    · subst e; rw [up_at]; exact hl
    · rw [up_ne _ _ e]; exact h.le j hj
  · by_cases e : j = k
    · subst e; rw [hr] at hf; cases hf
    · rw [up_ne _ _ e]; exact h.nb j hj hf
theorem smW_take {x : WireA} (h : WfW x) {k n : Nat} (hk : k < 2) (hr : (x.e k).rd = true) : SmW x (takeW x k n) := by
  have h1 : SmW x (x.up k fun e => { e with b := e.b.drop n }) := by
    rw [show (x.up k fun e => { e with b := e.b.drop n }) = x.up k fun e => { e with b := (x.e k).b.drop n } from up_eq rfl]
    exact smW_bytes h (by have := h.le k hk; rw [List.length_drop]; omega) hr
  exact h1.trans (smW_rise (h1.wf h) _ _ _)
theorem smW_put {x : WireA} (h : WfW x) {k : Nat} (hk : k < 2) (bs : List UInt8) (hr : (x.e (1 - k)).rd = true) : SmW x (putW x k bs) := by
  have h1 : SmW x (x.up (1 - k) fun e => { e with b := e.b ++ bs.take (putN x k bs) }) := by
    rw [show (x.up (1 - k) fun e => { e with b := e.b ++ bs.take (putN x k bs) }) = x.up (1 - k) fun e => { e with b := (x.e (1 - k)).b ++ bs.take (putN x k bs) } from up_eq rfl]
    refine smW_bytes h ?_ hr
    have := h.le (1 - k) (by omega)
    rw [List.length_append, List.length_take]
    unfold putN; omega
  exact h1.trans (smW_rise (h1.wf h) _ _ _)
end Wo
end Go.Proofs.Ytbfddabjbkohdaa
namespace Go.Proofs.Ytbfddabjbkohdaa
set_option linter.unusedSimpArgs false
set_option linter.unusedVariables false
set_option linter.unnecessarySimpa false
open Go.RX Fx
namespace Wo
set_option maxRecDepth 8000
theorem setW_same {w : WA} {n : Nat} {x : WireA} (h : w.ws[n]? = some x) : w.setW n x = w := by
  obtain ⟨hn, e⟩ := List.getElem?_eq_some_iff.1 h
  unfold WA.setW
  rw [← e, List.set_getElem_self]
theorem smW_same {x : WireA} (h : WfW x) : SmW x x := ⟨fun _ _ => ⟨rfl, rfl, rfl, rfl⟩, rfl, rfl, rfl, h.le, h.nb⟩
abbrev WoR (wb n : Nat) (w : WA) (i : WoI) (L : List SP) : List SP := WoH wb w.at w i.rs.length i :: own 81 1 i.wa i.rs.length i.wc (pws i.rs) :: SigP i.sb w.hd w.ct :: Wires (i.rs.take n) :: Wires (i.rs.drop (n + 1)) :: L
theorem world_fold' {wb n b : Nat} {w : WA} {i : WoI} {x x' : WireA} {L : List SP} (hw : WOk w) (hrs : i.rs.map Prod.snd = w.ws) (hb : i.rs[n]? = some (b, x)) (hs : SmW x x') :
    ∀ h, sep (WireP b x' :: WoR wb n w i L) h → sep (WorldP wb (w.setW n x') :: L) h :=
  fun h s => world_fold hw hrs hb hs h (Ent.sep enn h s)
theorem world_same {wb n b : Nat} {w : WA} {i : WoI} {x : WireA} {L : List SP} (hw : WOk w) (hrs : i.rs.map Prod.snd = w.ws) (hb : i.rs[n]? = some (b, x)) :
    ∀ h, sep (WireP b x :: WoR wb n w i L) h → sep (WorldP wb w :: L) h := by
  have hx : w.ws[n]? = some x := by rw [← hrs, List.getElem?_map, hb]; rfl
  have := world_fold' (wb := wb) (L := L) hw hrs hb (smW_same (hw.wf x (List.mem_of_getElem? hx)))
  rwa [setW_same hx] at this
theorem world_back {wb n b k : Nat} {w : WA} {i : WoI} {x : WireA} {i2 : WI} {L : List SP} (hw : WOk w) (hrs : i.rs.map Prod.snd = w.ws) (hb : i.rs[n]? = some (b, x)) (hi : WIOk x i2) (hk : k < 2) :
    ∀ h, sep (WireL b x i2 k (WoR wb n w i L)) h → sep (WorldP wb w :: L) h :=
  fun h s => world_same hw hrs hb h (wire_fold hi hk h s)
end Wo
end Go.Proofs.Ytbfddabjbkohdaa
namespace Go.Proofs.Ytbfddabjbkohdaa
set_option linter.unusedSimpArgs false
set_option linter.unusedVariables false
set_option linter.unnecessarySimpa false
open Go.RX Fx
namespace Wo
set_option maxRecDepth 8000
end Wo
end Go.Proofs.Ytbfddabjbkohdaa
namespace Go.Proofs.Ytbfddabjbkohdaa
set_option linter.unusedSimpArgs false
set_option linter.unusedVariables false
set_option linter.unnecessarySimpa false
open Go.RX Fx
namespace Wo
set_option maxRecDepth 8000
structure RdyA where
  op : Bool
  i : Bool
  o : Bool
  h : Bool
  e : Bool
  r : Int
  w : Int
abbrev encR (r : RdyA) : List Value := [.bool r.op, .bool r.i, .bool r.o, .bool r.h, .bool r.e, .int .u64 r.r, .int .u64 r.w]
def noRdy : RdyA := ⟨false, false, false, false, false, 0, 0⟩
def readyW (x : WireA) (k : Nat) : RdyA :=
  if x.bl > 0 then ⟨true, decide ((x.wt.length : Int) > 0), false, false, false, (x.e k).inn, (x.e k).out⟩
  else ⟨true, (x.e k).rd && ((decide (((x.e k).b.length : Int) > 0) || silentW x k) || x.rs), ((x.e k).wr && !(x.e k).shut) && ((decide ((x.e (1 - k)).what = 3) || x.rs) || decide (((x.cap - (x.e (1 - k)).b.length : Nat) : Int) > 0)), decide ((x.e (1 - k)).what = 3), x.rs, (x.e k).inn, (x.e k).out⟩
def readyR (w : WA) (fd : Int) : RdyA := match w.at fd with
  | none => noRdy
  | some (m, k) => match w.ws[m]? with
    | none => noRdy
    | some x => readyW x k
theorem rlenO_ct (L : List SP) (p : Option Nat) (hp : p.isSome = true) (cap : Nat) (l : List UInt8) : Ct Try.prog 68 #[ptr p] (RgO p cap l :: L) (fun _ : Unit => .int .i64 (l.length : Int)) (fun _ => RgO p cap l :: L) := by
  obtain ⟨rb, rfl⟩ := Option.isSome_iff_exists.1 hp
  exact rlen_ct L rb cap l
theorem rroomO_ct (L : List SP) (p : Option Nat) (hp : p.isSome = true) (cap : Nat) (l : List UInt8) : Ct Try.prog 70 #[ptr p] (RgO p cap l :: L) (fun _ : Unit => .int .i64 ((cap - l.length : Nat) : Int)) (fun _ => RgO p cap l :: L) := by
  obtain ⟨rb, rfl⟩ := Option.isSome_iff_exists.1 hp
  exact rroom_ct L rb cap l
set_option maxHeartbeats 2000000 in
theorem silentL_ct (L : List SP) (b : Nat) (x : WireA) (i : WI) (k : Nat) (hk : k < 2) : Ct Try.prog 69 #[.pointer (some ⟨b, 0, none⟩), .int .i64 (k : Int)] (WireH b x i :: L) (fun _ : Unit => .bool (silentW x k)) (fun _ : Unit => WireH b x i :: L) := by
  refine Ct.of (vs := [.pointer (some ⟨b, 0, none⟩), .int .i64 (k : Int)]) Try.func69 rfl rfl [(0, .pointer (some ⟨b, 0, none⟩)), (1, .int .i64 (k : Int))] (by repeat (first | exact trivial | refine ⟨rfl, ?_⟩)) ?_
  intro E
  show Hd E 24 _ _ _ _
  have hk1 : 1 - k < 2 := by omega
  refine Hd.seq (fun K1 hK1 => ?_)
  refine Hd.region ?_
  refine Hd.yv (y_assign rfl) ?_
  refine Hd.nil ?_
  refine Hd.slots [(0, _), (1, _)] ⟨rfl, rfl, trivial⟩ ?_
  refine Hd.toK hK1 ?_
  refine Hd.seq (fun K2 hK2 => ?_)
  refine Hd.region ?_
  refine Hd.yv (y_move rfl) ?_
  refine Hd.yv (y_move rfl) ?_
  first | (refine Hd.yv (y_to (v' := .int .i64 ((1 - k : Nat) : Int)) (y_subn rfl rfl (by simp only [InK]; omega)) (by (congr 1; omega))) ?_) | (refine Hd.yv (y_to (v' := .int .i64 ((1 - k : Nat) : Int)) (y_sub rfl rfl) (by (congr 1; omega))) ?_)
  refine Hd.yv (y_nilp rfl) ?_
  first | (refine Hd.yv (y_field' (q := 0) (ft := 86) Try.underlying88 rfl sz86 rfl rfl) ?_) | (refine Hd.yv (y_fieldR (q := 0) (ft := 86) Try.underlying88 rfl sz86 rfl rfl) ?_)
  first | (refine Hd.yv (y_idxA Try.underlying86 sz85 rfl rfl (by first | omega | decide)) ?_) | (refine Hd.yv (y_idxAR Try.underlying86 sz85 rfl rfl (by first | omega | decide)) ?_)
  first | (refine Hd.yv (y_field' (q := 0) (ft := 3) Try.underlying85 rfl sz3 rfl rfl) ?_) | (refine Hd.yv (y_fieldR (q := 0) (ft := 3) Try.underlying85 rfl sz3 rfl rfl) ?_)
  first | (refine Hd.yv (y_load1 ag3 rfl (Rd.pt1 pkk (by (first | exact enc_at 0 hk1 (by omega) (by omega) rfl | exact enc_at 4 hk1 (by omega) (by omega) rfl | rfl)))) ?_) | (refine Hd.yv (y_load1 ag3 rfl (Rd.seg1 pkk (by (first | exact enc_at 0 hk1 (by omega) (by omega) rfl | exact enc_at 4 hk1 (by omega) (by omega) rfl | rfl)))) ?_) | (refine Hd.yv (y_loadR1 ag3 rfl (by (first | exact RdS.own pkk)) (by (first | exact enc_at 0 hk1 (by omega) (by omega) rfl | exact enc_at 4 hk1 (by omega) (by omega) rfl | rfl))) ?_)
  first | (refine Hd.yv (y_eqlT rfl rfl) ?_) | (refine Hd.yv (y_eql rfl rfl) ?_)
  refine Hd.yv (y_move rfl) ?_
  apply Hd.org 9 14 23 [] rfl trivial
  · intro hg1_14
    try simp only [decide_eq_true_eq, decide_eq_false_iff_not, Bool.and_eq_true, Bool.or_eq_true, Bool.and_eq_false_iff, Bool.or_eq_false_iff, Bool.not_eq_true', Bool.not_eq_false', Bool.not_eq_true, Bool.not_eq_false, Int.not_lt, Int.not_le, Decidable.not_not, ne_eq] at hg1_14
    simp only [List.take]
    refine Hd.ng rfl rfl rfl ?_
    refine Hd.ng rfl rfl rfl ?_
    refine Hd.ng rfl rfl rfl ?_
    refine Hd.ng rfl rfl rfl ?_
    refine Hd.ng rfl rfl rfl ?_
    refine Hd.ng rfl rfl rfl ?_
    refine Hd.ng rfl rfl rfl ?_
    refine Hd.ng rfl rfl rfl ?_
    first | (refine Hd.yv (y_pickT rfl rfl) ?_) | (refine Hd.yv (y_pickF rfl rfl) ?_) | (refine Hd.yv (y_pickb rfl rfl rfl) ?_) | (refine Hd.yv (y_pick rfl rfl rfl) ?_)
    refine Hd.nil ?_
    exact Hd.mend (by repeat (first | exact trivial | refine ⟨rfl, ?_⟩)) (Ent.sep enn)
  · intro hg1_14
    try simp only [decide_eq_true_eq, decide_eq_false_iff_not, Bool.and_eq_true, Bool.or_eq_true, Bool.and_eq_false_iff, Bool.or_eq_false_iff, Bool.not_eq_true', Bool.not_eq_false', Bool.not_eq_true, Bool.not_eq_false, Int.not_lt, Int.not_le, Decidable.not_not, ne_eq] at hg1_14
    simp only [List.take]
    refine Hd.yg rfl rfl (y_move rfl) ?_
    refine Hd.yg rfl rfl (y_move rfl) ?_
    first | (refine Hd.yg rfl rfl (y_to (v' := .int .i64 ((1 - k : Nat) : Int)) (y_subn rfl rfl (by simp only [InK]; omega)) (by (congr 1; omega))) ?_) | (refine Hd.yg rfl rfl (y_to (v' := .int .i64 ((1 - k : Nat) : Int)) (y_sub rfl rfl) (by (congr 1; omega))) ?_)
    refine Hd.yg rfl rfl (y_nilp rfl) ?_
    first | (refine Hd.yg rfl rfl (y_field' (q := 0) (ft := 86) Try.underlying88 rfl sz86 rfl rfl) ?_) | (refine Hd.yg rfl rfl (y_fieldR (q := 0) (ft := 86) Try.underlying88 rfl sz86 rfl rfl) ?_)
    first | (refine Hd.yg rfl rfl (y_idxA Try.underlying86 sz85 rfl rfl (by first | omega | decide)) ?_) | (refine Hd.yg rfl rfl (y_idxAR Try.underlying86 sz85 rfl rfl (by first | omega | decide)) ?_)
    first | (refine Hd.yg rfl rfl (y_field' (q := 4) (ft := 4) Try.underlying85 rfl sz4 rfl rfl) ?_) | (refine Hd.yg rfl rfl (y_fieldR (q := 4) (ft := 4) Try.underlying85 rfl sz4 rfl rfl) ?_)
    first | (refine Hd.yg rfl rfl (y_load1 ag4 rfl (Rd.pt1 pkk (by (first | exact enc_at 0 hk1 (by omega) (by omega) rfl | exact enc_at 4 hk1 (by omega) (by omega) rfl | rfl)))) ?_) | (refine Hd.yg rfl rfl (y_load1 ag4 rfl (Rd.seg1 pkk (by (first | exact enc_at 0 hk1 (by omega) (by omega) rfl | exact enc_at 4 hk1 (by omega) (by omega) rfl | rfl)))) ?_) | (refine Hd.yg rfl rfl (y_loadR1 ag4 rfl (by (first | exact RdS.own pkk)) (by (first | exact enc_at 0 hk1 (by omega) (by omega) rfl | exact enc_at 4 hk1 (by omega) (by omega) rfl | rfl))) ?_)
    first | (refine Hd.yv (y_pickT rfl rfl) ?_) | (refine Hd.yv (y_pickF rfl rfl) ?_) | (refine Hd.yv (y_pickb rfl rfl rfl) ?_) | (refine Hd.yv (y_pick rfl rfl rfl) ?_)
    refine Hd.nil ?_
    exact Hd.mend (by repeat (first | exact trivial | refine ⟨rfl, ?_⟩)) (Ent.sep enn)
  simp only [List.drop]
  refine Hd.yv (y_assign rfl) ?_
  refine Hd.nil ?_
  refine Hd.slots [(4, _)] ⟨rfl, trivial⟩ ?_
  refine Hd.toK hK2 ?_
  refine Hd.ret ?_
  clear hK1 hK2
  exact Hd.ret1 rfl () (by first | rfl | (simp only [*]; done) | (simp [*]; done)) (Ent.sep enn)
theorem enc_at0 {x : WireA} {i : WI} {k j : Nat} {v : Value} (hk : k < 2) (hv : (encE (x.e k) (i.p k))[j]? = some v) : (encW x i)[0 + 0 + k * 7 + j]? = some v :=
  enc_at j hk (by have := (List.getElem?_eq_some_iff.1 hv).1; simpa using this) (by omega) hv
theorem encE_one (x : EndA) (p : Option Nat) : ∀ u ∈ encE x p, u.oneCell' = true := by simp [Value.oneCell']
set_option maxHeartbeats 2000000 in
theorem wready_ct (L : List SP) (wb : Nat) (w : WA) (fd : Int) : Ct Try.prog 39 #[.pointer (some ⟨wb, 0, none⟩), .int .i64 fd] (WorldP wb w :: L) (fun _ : Unit => .agg (encR (readyR w fd)).toArray) (fun _ : Unit => WorldP wb w :: L) := by
  refine Ct.of (vs := [.pointer (some ⟨wb, 0, none⟩), .int .i64 fd]) Try.func39 rfl rfl [(0, .pointer (some ⟨wb, 0, none⟩)), (1, .int .i64 fd)] (by repeat (first | exact trivial | refine ⟨rfl, ?_⟩)) ?_
  intro E
  show Hd E 110 _ _ _ _
  refine Hd.world .here (fun i hw hrs => ?_)
  refine Hd.seq (fun K1 hK1 => ?_)
  refine Hd.region ?_
  refine Hd.alloc zr97 (fun b4 => ?_)
  refine Hd.nil ?_
  refine Hd.slots [(0, _), (1, _), (4, _)] ⟨rfl, rfl, rfl, trivial⟩ ?_
  refine Hd.toK hK1 ?_
  refine Hd.seq (fun K2 hK2 => ?_)
  refine Hd.region ?_
  refine Hd.yv (y_move rfl) ?_
  refine Hd.yv (y_move rfl) ?_
  refine Hd.callE rfl fk46 (find_ct _ wb w i hw hrs fd) (Ent.sep enn) ?_
  intro _
  refine Hd.yv (y_move rfl) ?_
  refine Hd.yv (y_extract rfl rfl) ?_
  refine Hd.yv (y_extract rfl rfl) ?_
  refine Hd.yv (y_extract rfl rfl) ?_
  refine Hd.alloc zr75 (fun b5 => ?_)
  refine Hd.storeA (us := plc (w.at fd)) (by rw [plc_len]; exact sz75) rfl rfl rfl (plc_one _) pkk (by rw [plc_len]; rfl) ?_
  refine Hd.yv (y_assign rfl) ?_
  refine Hd.yv (y_assign rfl) ?_
  refine Hd.nil ?_
  refine Hd.slots [(4, _), (5, _), (6, _), (7, _)] ⟨rfl, rfl, rfl, rfl, trivial⟩ ?_
  refine Hd.toK hK2 ?_
  refine Hd.seq (fun K3 hK3 => ?_)
  refine Hd.seq (fun K4 hK4 => ?_)
  refine Hd.region ?_
  refine Hd.yv (y_move rfl) ?_
  refine Hd.yv (y_neq rfl rfl) ?_
  refine Hd.nil ?_
  refine Hd.slots [(4, _), (5, _), (6, _), (19, _)] ⟨rfl, rfl, rfl, rfl, trivial⟩ ?_
  refine Hd.toK hK4 ?_
  refine Hd.cond rfl (fun hc0 => ?_) (fun hc0 => ?_)
  ·
    try simp only [decide_eq_true_eq, decide_eq_false_iff_not, Bool.and_eq_true, Bool.or_eq_true, Bool.and_eq_false_iff, Bool.or_eq_false_iff, Bool.not_eq_true', Bool.not_eq_false', Bool.not_eq_true, Bool.not_eq_false, Int.not_lt, Int.not_le, Decidable.not_not, ne_eq] at hc0
    refine Hd.seq (fun K5 hK5 => ?_)
    refine Hd.region ?_
    refine Hd.yv (y_build (vs := []) rfl (by first | exact bd39_20 .. | kernel_rfl)) ?_
    refine Hd.storeA (us := encR noRdy) sz97 rfl rfl rfl (by simp [Value.oneCell']) pkk (by exact rfl) ?_
    refine Hd.nil ?_
    refine Hd.slots [(4, _)] ⟨rfl, trivial⟩ ?_
    refine Hd.toK hK5 ?_
    refine Hd.ret ?_
    refine Hd.thenRet ?_
    clear hK1 hK2 hK3 hK4 hK5
    have hno : w.at fd = none := by
      cases h : w.at fd with
      | none => rfl
      | some p => rw [h] at hc0; exact absurd rfl hc0
    rw [show readyR w fd = noRdy by unfold readyR; rw [hno]]
    exact Hd.retC rfl () ag97 rfl (Rd.pt (us := encR noRdy) pkk (fun j v e => by rw [Nat.zero_add]; exact e)) (by exact sz97) rfl (Ent.sep (.ex i (.pure ⟨hw, hrs⟩ enn)))
  ·
    try simp only [decide_eq_true_eq, decide_eq_false_iff_not, Bool.and_eq_true, Bool.or_eq_true, Bool.and_eq_false_iff, Bool.or_eq_false_iff, Bool.not_eq_true', Bool.not_eq_false', Bool.not_eq_true, Bool.not_eq_false, Int.not_lt, Int.not_le, Decidable.not_not, ne_eq] at hc0
    obtain ⟨m0, k, hnk⟩ : ∃ m k, w.at fd = some (m, k) := by
      cases h : w.at fd with
      | none => rw [h] at hc0; exact absurd hc0 (by decide)
      | some p => exact ⟨p.1, p.2, rfl⟩
    obtain ⟨_, _, hk, hn, x, hx, _, _⟩ := hw.at_lt hnk
    obtain ⟨b, hb⟩ := rs_at hrs hx
    have hwf := hw.wf x (List.mem_of_getElem? hx)
    have hk1 : 1 - k < 2 := by omega
    have hrd : readyR w fd = readyW x k := by unfold readyR; rw [hnk]; dsimp only; rw [hx]
    rw [hnk, wfb_eq hb]
    refine Hd.wOut pkk hb ?_
    refine Hd.wire .here k hk (fun i2 hi => ?_)
    have hp0 := hi.rd k hk
    have hp1 := hi.rd (1 - k) hk1
    rw [← hwf.wr k hk] at hp1
    refine Hd.skip ?_
    refine Hd.toK hK3 ?_
    refine Hd.cutK (ι := Nat × Nat) [(4, _), (5, _), (6, _)] (fun j => [(8, .pointer (some ⟨j.1, 0, none⟩)), (9, .pointer (some ⟨j.2, 0, none⟩))]) (fun j => pt j.1 (encE (x.e k) (i2.p k)) 85 :: pt j.2 (encE (x.e (1 - k)) (i2.p (1 - k))) 85 :: pt b4 (encR noRdy) 97 :: pt b5 (plc (some (m0, k))) 75 :: WireL b x i2 k (WoR wb m0 w i L)) ?_ ?_ ⟨rfl, rfl, rfl, trivial⟩
    ·
      refine Hd.drawsH ([WireH b x i2, pt b5 (plc (some (m0, k))) 75]) (fun j => !(([1000] : List Nat).contains j)) mixed ?_
      simp only [List.length, Nat.zero_add, Nat.reduceAdd]
      refine Hd.takeH 0 rfl (by kernel_rfl) (by kernel_rfl) (by kernel_rfl) (by kernel_rfl) (y_move rfl) (fun _ _ => rfl) (Ent.sep enn) ?_
      first | (refine Hd.takeH 1 rfl (by kernel_rfl) (by kernel_rfl) (by kernel_rfl) (by kernel_rfl) (y_field' (q := 2) (ft := 3) Try.underlying75 rfl sz3 rfl rfl) (fun _ _ => rfl) (Ent.sep enn) ?_) | (refine Hd.takeH 1 rfl (by kernel_rfl) (by kernel_rfl) (by kernel_rfl) (by kernel_rfl) (y_fieldR (q := 2) (ft := 3) Try.underlying75 rfl sz3 rfl rfl) (fun _ _ => rfl) (Ent.sep enn) ?_)
      first | (refine Hd.takeH 2 rfl (by kernel_rfl) (by kernel_rfl) (by kernel_rfl) (by kernel_rfl) (y_load1 ag3 rfl (Rd.pt1 pkk (by (first | rfl)))) (fun _ _ => rfl) (Ent.sep enn) ?_) | (refine Hd.takeH 2 rfl (by kernel_rfl) (by kernel_rfl) (by kernel_rfl) (by kernel_rfl) (y_load1 ag3 rfl (Rd.seg1 pkk (by (first | rfl)))) (fun _ _ => rfl) (Ent.sep enn) ?_) | (refine Hd.takeH 2 rfl (by kernel_rfl) (by kernel_rfl) (by kernel_rfl) (by kernel_rfl) (y_loadR1 ag3 rfl (by (first | exact RdS.own pkk)) (by (first | rfl))) (fun _ _ => rfl) (Ent.sep enn) ?_)
      refine Hd.takeH 3 rfl (by kernel_rfl) (by kernel_rfl) (by kernel_rfl) (by kernel_rfl) (y_nilp rfl) (fun _ _ => rfl) (Ent.sep enn) ?_
      first | (refine Hd.takeH 4 rfl (by kernel_rfl) (by kernel_rfl) (by kernel_rfl) (by kernel_rfl) (y_field' (q := 0) (ft := 86) Try.underlying88 rfl sz86 rfl rfl) (fun _ _ => rfl) (Ent.sep enn) ?_) | (refine Hd.takeH 4 rfl (by kernel_rfl) (by kernel_rfl) (by kernel_rfl) (by kernel_rfl) (y_fieldR (q := 0) (ft := 86) Try.underlying88 rfl sz86 rfl rfl) (fun _ _ => rfl) (Ent.sep enn) ?_)
      first | (refine Hd.takeH 5 rfl (by kernel_rfl) (by kernel_rfl) (by kernel_rfl) (by kernel_rfl) (y_idxA Try.underlying86 sz85 rfl rfl (by first | omega | decide)) (fun _ _ => rfl) (Ent.sep enn) ?_) | (refine Hd.takeH 5 rfl (by kernel_rfl) (by kernel_rfl) (by kernel_rfl) (by kernel_rfl) (y_idxAR Try.underlying86 sz85 rfl rfl (by first | omega | decide)) (fun _ _ => rfl) (Ent.sep enn) ?_)
      refine Hd.takeH 6 rfl (by kernel_rfl) (by kernel_rfl) (by kernel_rfl) (by kernel_rfl) (y_loadn (us := encE (x.e k) (i2.p k)) ag85 rfl (Rd.pt pkk (fun j v e => enc_at0 hk e)) (by exact sz85)) (fun _ _ => rfl) (Ent.sep enn) ?_
      refine Hd.takeH 7 rfl (by kernel_rfl) (by kernel_rfl) (by kernel_rfl) (by kernel_rfl) (y_move rfl) (fun _ _ => rfl) (Ent.sep enn) ?_
      first | (refine Hd.takeH 8 rfl (by kernel_rfl) (by kernel_rfl) (by kernel_rfl) (by kernel_rfl) (y_field' (q := 2) (ft := 3) Try.underlying75 rfl sz3 rfl rfl) (fun _ _ => rfl) (Ent.sep enn) ?_) | (refine Hd.takeH 8 rfl (by kernel_rfl) (by kernel_rfl) (by kernel_rfl) (by kernel_rfl) (y_fieldR (q := 2) (ft := 3) Try.underlying75 rfl sz3 rfl rfl) (fun _ _ => rfl) (Ent.sep enn) ?_)
      first | (refine Hd.takeH 9 rfl (by kernel_rfl) (by kernel_rfl) (by kernel_rfl) (by kernel_rfl) (y_load1 ag3 rfl (Rd.pt1 pkk (by (first | rfl)))) (fun _ _ => rfl) (Ent.sep enn) ?_) | (refine Hd.takeH 9 rfl (by kernel_rfl) (by kernel_rfl) (by kernel_rfl) (by kernel_rfl) (y_load1 ag3 rfl (Rd.seg1 pkk (by (first | rfl)))) (fun _ _ => rfl) (Ent.sep enn) ?_) | (refine Hd.takeH 9 rfl (by kernel_rfl) (by kernel_rfl) (by kernel_rfl) (by kernel_rfl) (y_loadR1 ag3 rfl (by (first | exact RdS.own pkk)) (by (first | rfl))) (fun _ _ => rfl) (Ent.sep enn) ?_)
      first | (refine Hd.takeH 10 rfl (by kernel_rfl) (by kernel_rfl) (by kernel_rfl) (by kernel_rfl) (y_to (v' := .int .i64 ((1 - k : Nat) : Int)) (y_subn rfl rfl (by simp only [InK]; omega)) (by (congr 1; omega))) (fun _ _ => rfl) (Ent.sep enn) ?_) | (refine Hd.takeH 10 rfl (by kernel_rfl) (by kernel_rfl) (by kernel_rfl) (by kernel_rfl) (y_to (v' := .int .i64 ((1 - k : Nat) : Int)) (y_sub rfl rfl) (by (congr 1; omega))) (fun _ _ => rfl) (Ent.sep enn) ?_)
      refine Hd.takeH 11 rfl (by kernel_rfl) (by kernel_rfl) (by kernel_rfl) (by kernel_rfl) (y_nilp rfl) (fun _ _ => rfl) (Ent.sep enn) ?_
      first | (refine Hd.takeH 12 rfl (by kernel_rfl) (by kernel_rfl) (by kernel_rfl) (by kernel_rfl) (y_field' (q := 0) (ft := 86) Try.underlying88 rfl sz86 rfl rfl) (fun _ _ => rfl) (Ent.sep enn) ?_) | (refine Hd.takeH 12 rfl (by kernel_rfl) (by kernel_rfl) (by kernel_rfl) (by kernel_rfl) (y_fieldR (q := 0) (ft := 86) Try.underlying88 rfl sz86 rfl rfl) (fun _ _ => rfl) (Ent.sep enn) ?_)
      first | (refine Hd.takeH 13 rfl (by kernel_rfl) (by kernel_rfl) (by kernel_rfl) (by kernel_rfl) (y_idxA Try.underlying86 sz85 rfl rfl (by first | omega | decide)) (fun _ _ => rfl) (Ent.sep enn) ?_) | (refine Hd.takeH 13 rfl (by kernel_rfl) (by kernel_rfl) (by kernel_rfl) (by kernel_rfl) (y_idxAR Try.underlying86 sz85 rfl rfl (by first | omega | decide)) (fun _ _ => rfl) (Ent.sep enn) ?_)
      refine Hd.takeH 14 rfl (by kernel_rfl) (by kernel_rfl) (by kernel_rfl) (by kernel_rfl) (y_loadn (us := encE (x.e (1 - k)) (i2.p (1 - k))) ag85 rfl (Rd.pt pkk (fun j v e => enc_at0 hk1 e)) (by exact sz85)) (fun _ _ => rfl) (Ent.sep enn) ?_
      refine Hd.eitherH 15 16 rfl rfl (by kernel_rfl) ?_ ?_
      ·
        refine Hd.alloc zr85 (fun b8 => ?_)
        refine Hd.nil ?_
        refine Hd.thenN ?_
        refine Hd.heldK (J := (fun j => !(([1000] : List Nat).contains j))) (i := 15) (Ent.sep enn) ?_
        refine Hd.onlyH 16 rfl (by kernel_rfl) ?_
        refine Hd.alloc zr85 (fun b9 => ?_)
        refine Hd.nil ?_
        refine Hd.thenN ?_
        refine Hd.heldK (J := (fun j => !(([1000] : List Nat).contains j))) (i := 16) (Ent.sep enn) ?_
        refine Hd.onlyH 17 rfl (by kernel_rfl) ?_
        refine Hd.storeA (us := encE (x.e k) (i2.p k)) sz85 rfl rfl rfl (encE_one _ _) pkk (by exact rfl) ?_
        refine Hd.nil ?_
        refine Hd.thenN ?_
        refine Hd.heldK (J := (fun j => !(([1000] : List Nat).contains j))) (i := 17) (Ent.sep enn) ?_
        refine Hd.onlyH 18 rfl (by kernel_rfl) ?_
        refine Hd.storeA (us := encE (x.e (1 - k)) (i2.p (1 - k))) sz85 rfl rfl rfl (encE_one _ _) pkk (by exact rfl) ?_
        refine Hd.nil ?_
        refine Hd.thenN ?_
        refine Hd.heldK (J := (fun j => !(([1000] : List Nat).contains j))) (i := 18) (Ent.sep enn) ?_
        refine Hd.endH (by kernel_rfl) ?_
        refine Hd.slots [(4, _), (5, _), (6, _), (8, _), (9, _)] ⟨rfl, rfl, rfl, rfl, rfl, trivial⟩ ?_
        clear hK1 hK2 hK3 hK4
        refine Hd.thenN ?_
        exact Hd.meet (b8, b9) (by repeat (first | exact trivial | refine ⟨rfl, ?_⟩)) (Ent.sep (.pick pkk (.pick pkk (.eq pkk (pt_eq (by rfl)) enn))))
      ·
        refine Hd.alloc zr85 (fun b9 => ?_)
        refine Hd.nil ?_
        refine Hd.thenN ?_
        refine Hd.heldK (J := (fun j => !(([1000] : List Nat).contains j))) (i := 16) (Ent.sep enn) ?_
        refine Hd.onlyH 15 rfl (by kernel_rfl) ?_
        refine Hd.alloc zr85 (fun b8 => ?_)
        refine Hd.nil ?_
        refine Hd.thenN ?_
        refine Hd.heldK (J := (fun j => !(([1000] : List Nat).contains j))) (i := 15) (Ent.sep enn) ?_
        refine Hd.onlyH 17 rfl (by kernel_rfl) ?_
        refine Hd.storeA (us := encE (x.e k) (i2.p k)) sz85 rfl rfl rfl (encE_one _ _) pkk (by exact rfl) ?_
        refine Hd.nil ?_
        refine Hd.thenN ?_
        refine Hd.heldK (J := (fun j => !(([1000] : List Nat).contains j))) (i := 17) (Ent.sep enn) ?_
        refine Hd.onlyH 18 rfl (by kernel_rfl) ?_
        refine Hd.storeA (us := encE (x.e (1 - k)) (i2.p (1 - k))) sz85 rfl rfl rfl (encE_one _ _) pkk (by exact rfl) ?_
        refine Hd.nil ?_
        refine Hd.thenN ?_
        refine Hd.heldK (J := (fun j => !(([1000] : List Nat).contains j))) (i := 18) (Ent.sep enn) ?_
        refine Hd.endH (by kernel_rfl) ?_
        refine Hd.slots [(4, _), (5, _), (6, _), (8, _), (9, _)] ⟨rfl, rfl, rfl, rfl, rfl, trivial⟩ ?_
        clear hK1 hK2 hK3 hK4
        refine Hd.thenN ?_
        exact Hd.meet (b8, b9) (by repeat (first | exact trivial | refine ⟨rfl, ?_⟩)) (Ent.sep (.pick pkk (.pick pkk (.eq pkk (pt_eq (by rfl)) enn))))
    ·
      rintro ⟨b8, b9⟩
      dsimp only
      refine Hd.seq (fun K6 hK6 => ?_)
      refine Hd.region ?_
      first | (refine Hd.yv (y_field' (q := 5) (ft := 78) Try.underlying85 rfl sz78 rfl rfl) ?_) | (refine Hd.yv (y_fieldR (q := 5) (ft := 78) Try.underlying85 rfl sz78 rfl rfl) ?_)
      first | (refine Hd.yv (y_load1 ag78 rfl (Rd.pt1 pkk (by (first | rfl)))) ?_) | (refine Hd.yv (y_load1 ag78 rfl (Rd.seg1 pkk (by (first | rfl)))) ?_) | (refine Hd.yv (y_loadR1 ag78 rfl (by (first | exact RdS.own pkk)) (by (first | rfl))) ?_)
      first | (refine Hd.yv (y_field' (q := 6) (ft := 78) Try.underlying85 rfl sz78 rfl rfl) ?_) | (refine Hd.yv (y_fieldR (q := 6) (ft := 78) Try.underlying85 rfl sz78 rfl rfl) ?_)
      first | (refine Hd.yv (y_load1 ag78 rfl (Rd.pt1 pkk (by (first | rfl)))) ?_) | (refine Hd.yv (y_load1 ag78 rfl (Rd.seg1 pkk (by (first | rfl)))) ?_) | (refine Hd.yv (y_loadR1 ag78 rfl (by (first | exact RdS.own pkk)) (by (first | rfl))) ?_)
      refine Hd.yv (y_build (vs := [(0, _), (5, _), (6, _)]) rfl (by first | exact bd39_40 .. | kernel_rfl)) ?_
      refine Hd.alloc zr97 (fun b10 => ?_)
      refine Hd.storeA (us := encR ⟨true, false, false, false, false, (x.e k).inn, (x.e k).out⟩) sz97 rfl rfl rfl (by simp [Value.oneCell']) pkk (by exact rfl) ?_
      refine Hd.nil ?_
      refine Hd.slots [(4, _), (5, _), (6, _), (8, _), (9, _), (10, _)] ⟨rfl, rfl, rfl, rfl, rfl, rfl, trivial⟩ ?_
      refine Hd.toK hK6 ?_
      refine Hd.seq (fun K7 hK7 => ?_)
      refine Hd.seq (fun K8 hK8 => ?_)
      refine Hd.region ?_
      refine Hd.yv (y_move rfl) ?_
      refine Hd.yv (y_nilp rfl) ?_
      first | (refine Hd.yv (y_field' (q := 15) (ft := 3) Try.underlying88 rfl sz3 rfl rfl) ?_) | (refine Hd.yv (y_fieldR (q := 15) (ft := 3) Try.underlying88 rfl sz3 rfl rfl) ?_)
      first | (refine Hd.yv (y_load1 ag3 rfl (Rd.pt1 pkk (by (first | rfl)))) ?_) | (refine Hd.yv (y_load1 ag3 rfl (Rd.seg1 pkk (by (first | rfl)))) ?_) | (refine Hd.yv (y_loadR1 ag3 rfl (by (first | exact RdS.own pkk)) (by (first | rfl))) ?_)
      refine Hd.yv (y_gtr rfl rfl) ?_
      refine Hd.nil ?_
      refine Hd.slots [(4, _), (5, _), (6, _), (8, _), (9, _), (10, _), (45, _)] ⟨rfl, rfl, rfl, rfl, rfl, rfl, rfl, trivial⟩ ?_
      refine Hd.toK hK8 ?_
      refine Hd.cond rfl (fun hc1 => ?_) (fun hc1 => ?_)
      ·
        try simp only [decide_eq_true_eq, decide_eq_false_iff_not, Bool.and_eq_true, Bool.or_eq_true, Bool.and_eq_false_iff, Bool.or_eq_false_iff, Bool.not_eq_true', Bool.not_eq_false', Bool.not_eq_true, Bool.not_eq_false, Int.not_lt, Int.not_le, Decidable.not_not, ne_eq] at hc1
        refine Hd.seq (fun K9 hK9 => ?_)
        refine Hd.region ?_
        refine Hd.yv (y_move rfl) ?_
        refine Hd.yv (y_nilp rfl) ?_
        first | (refine Hd.yv (y_field' (q := 16) (ft := 22) Try.underlying88 rfl sz22 rfl rfl) ?_) | (refine Hd.yv (y_fieldR (q := 16) (ft := 22) Try.underlying88 rfl sz22 rfl rfl) ?_)
        first | (refine Hd.yv (y_load1 ag22 rfl (Rd.pt1 pkk (by (first | rfl)))) ?_) | (refine Hd.yv (y_load1 ag22 rfl (Rd.seg1 pkk (by (first | rfl)))) ?_) | (refine Hd.yv (y_loadR1 ag22 rfl (by (first | exact RdS.own pkk)) (by (first | rfl))) ?_)
        refine Hd.yv (y_len Try.underlying22 rfl) ?_
        refine Hd.yv (y_gtr rfl rfl) ?_
        first | (refine Hd.yv (y_field' (q := 1) (ft := 4) Try.underlying97 rfl sz4 rfl rfl) ?_) | (refine Hd.yv (y_fieldR (q := 1) (ft := 4) Try.underlying97 rfl sz4 rfl rfl) ?_)
        first | (refine Hd.store1 sz4 rfl rfl rfl pkk (by first | decide | (simp; done) | (simp; omega)) ?_) | (refine Hd.storeG1 sz4 rfl rfl rfl pkk (by first | decide | (simp; done) | (simp; omega)) ?_) | (refine Hd.storeO1 sz4 rfl rfl rfl pkk (by first | omega | (simp; done) | (simp; omega)) ?_)
        try simp only [List.set_cons_zero, List.set_cons_succ]
        refine Hd.nil ?_
        refine Hd.slots [(4, _), (10, _)] ⟨rfl, rfl, trivial⟩ ?_
        refine Hd.toK hK9 ?_
        refine Hd.seq (fun K10 hK10 => ?_)
        refine Hd.region ?_
        refine Hd.yv (y_loadn (us := encR (readyW x k)) ag97 rfl (Rd.pt pkk (fun j v e => by rw [Nat.zero_add]; rw [show readyW x k = ⟨true, decide ((x.wt.length : Int) > 0), false, false, false, (x.e k).inn, (x.e k).out⟩ from if_pos hc1] at e; exact e)) (by exact sz97)) ?_
        refine Hd.storeA (us := encR (readyW x k)) sz97 rfl rfl rfl (by simp [Value.oneCell']) pkk (by exact rfl) ?_
        refine Hd.nil ?_
        refine Hd.slots [(4, _)] ⟨rfl, trivial⟩ ?_
        refine Hd.toK hK10 ?_
        refine Hd.ret ?_
        refine Hd.thenRet ?_
        clear hK1 hK2 hK3 hK4 hK6 hK7 hK8 hK9 hK10
        rw [hrd]
        exact Hd.retC rfl () ag97 rfl (Rd.pt (us := encR (readyW x k)) pkk (fun j v e => by rw [Nat.zero_add]; exact e)) (by exact sz97) rfl (fun q s => world_back hw hrs hb hi hk q (Ent.sep enn q s))
      ·
        try simp only [decide_eq_true_eq, decide_eq_false_iff_not, Bool.and_eq_true, Bool.or_eq_true, Bool.and_eq_false_iff, Bool.or_eq_false_iff, Bool.not_eq_true', Bool.not_eq_false', Bool.not_eq_true, Bool.not_eq_false, Int.not_lt, Int.not_le, Decidable.not_not, ne_eq] at hc1
        refine Hd.skip ?_
        refine Hd.toK hK7 ?_
        refine Hd.seq (fun K11 hK11 => ?_)
        refine Hd.drawsH ([WireH b x i2, pt b9 (encE (x.e (1 - k)) (i2.p (1 - k))) 85]) (fun j => !(([1000] : List Nat).contains j)) mixed ?_
        simp only [List.length, Nat.zero_add, Nat.reduceAdd]
        first | (refine Hd.takeH 0 rfl (by kernel_rfl) (by kernel_rfl) (by kernel_rfl) (by kernel_rfl) (y_field' (q := 0) (ft := 3) Try.underlying85 rfl sz3 rfl rfl) (fun _ _ => rfl) (Ent.sep enn) ?_) | (refine Hd.takeH 0 rfl (by kernel_rfl) (by kernel_rfl) (by kernel_rfl) (by kernel_rfl) (y_fieldR (q := 0) (ft := 3) Try.underlying85 rfl sz3 rfl rfl) (fun _ _ => rfl) (Ent.sep enn) ?_)
        first | (refine Hd.takeH 1 rfl (by kernel_rfl) (by kernel_rfl) (by kernel_rfl) (by kernel_rfl) (y_load1 ag3 rfl (Rd.pt1 pkk (by (first | rfl)))) (fun _ _ => rfl) (Ent.sep enn) ?_) | (refine Hd.takeH 1 rfl (by kernel_rfl) (by kernel_rfl) (by kernel_rfl) (by kernel_rfl) (y_load1 ag3 rfl (Rd.seg1 pkk (by (first | rfl)))) (fun _ _ => rfl) (Ent.sep enn) ?_) | (refine Hd.takeH 1 rfl (by kernel_rfl) (by kernel_rfl) (by kernel_rfl) (by kernel_rfl) (y_loadR1 ag3 rfl (by (first | exact RdS.own pkk)) (by (first | rfl))) (fun _ _ => rfl) (Ent.sep enn) ?_)
        first | (refine Hd.takeH 2 rfl (by kernel_rfl) (by kernel_rfl) (by kernel_rfl) (by kernel_rfl) (y_eqlT rfl rfl) (fun _ _ => rfl) (Ent.sep enn) ?_) | (refine Hd.takeH 2 rfl (by kernel_rfl) (by kernel_rfl) (by kernel_rfl) (by kernel_rfl) (y_eql rfl rfl) (fun _ _ => rfl) (Ent.sep enn) ?_)
        refine Hd.takeH 3 rfl (by kernel_rfl) (by kernel_rfl) (by kernel_rfl) (by kernel_rfl) (y_move rfl) (fun _ _ => rfl) (Ent.sep enn) ?_
        refine Hd.takeH 4 rfl (by kernel_rfl) (by kernel_rfl) (by kernel_rfl) (by kernel_rfl) (y_nilp rfl) (fun _ _ => rfl) (Ent.sep enn) ?_
        first | (refine Hd.takeH 5 rfl (by kernel_rfl) (by kernel_rfl) (by kernel_rfl) (by kernel_rfl) (y_field' (q := 14) (ft := 4) Try.underlying88 rfl sz4 rfl rfl) (fun _ _ => rfl) (Ent.sep enn) ?_) | (refine Hd.takeH 5 rfl (by kernel_rfl) (by kernel_rfl) (by kernel_rfl) (by kernel_rfl) (y_fieldR (q := 14) (ft := 4) Try.underlying88 rfl sz4 rfl rfl) (fun _ _ => rfl) (Ent.sep enn) ?_)
        first | (refine Hd.takeH 6 rfl (by kernel_rfl) (by kernel_rfl) (by kernel_rfl) (by kernel_rfl) (y_load1 ag4 rfl (Rd.pt1 pkk (by (first | rfl)))) (fun _ _ => rfl) (Ent.sep enn) ?_) | (refine Hd.takeH 6 rfl (by kernel_rfl) (by kernel_rfl) (by kernel_rfl) (by kernel_rfl) (y_load1 ag4 rfl (Rd.seg1 pkk (by (first | rfl)))) (fun _ _ => rfl) (Ent.sep enn) ?_) | (refine Hd.takeH 6 rfl (by kernel_rfl) (by kernel_rfl) (by kernel_rfl) (by kernel_rfl) (y_loadR1 ag4 rfl (by (first | exact RdS.own pkk)) (by (first | rfl))) (fun _ _ => rfl) (Ent.sep enn) ?_)
        first | (refine Hd.takeH 7 rfl (by kernel_rfl) (by kernel_rfl) (by kernel_rfl) (by kernel_rfl) (y_field' (q := 3) (ft := 4) Try.underlying97 rfl sz4 rfl rfl) (fun _ _ => rfl) (Ent.sep enn) ?_) | (refine Hd.takeH 7 rfl (by kernel_rfl) (by kernel_rfl) (by kernel_rfl) (by kernel_rfl) (y_fieldR (q := 3) (ft := 4) Try.underlying97 rfl sz4 rfl rfl) (fun _ _ => rfl) (Ent.sep enn) ?_)
        refine Hd.onlyH 8 rfl (by kernel_rfl) ?_
        first | (refine Hd.store1 sz4 rfl rfl rfl pkk (by first | decide | (simp; done) | (simp; omega)) ?_) | (refine Hd.storeG1 sz4 rfl rfl rfl pkk (by first | decide | (simp; done) | (simp; omega)) ?_) | (refine Hd.storeO1 sz4 rfl rfl rfl pkk (by first | omega | (simp; done) | (simp; omega)) ?_)
        try simp only [List.set_cons_zero, List.set_cons_succ]
        refine Hd.nil ?_
        refine Hd.thenN ?_
        refine Hd.heldK (J := (fun j => !(([1000] : List Nat).contains j))) (i := 8) (Ent.sep enn) ?_
        first | (refine Hd.takeH 9 rfl (by kernel_rfl) (by kernel_rfl) (by kernel_rfl) (by kernel_rfl) (y_field' (q := 4) (ft := 4) Try.underlying97 rfl sz4 rfl rfl) (fun _ _ => rfl) (Ent.sep enn) ?_) | (refine Hd.takeH 9 rfl (by kernel_rfl) (by kernel_rfl) (by kernel_rfl) (by kernel_rfl) (y_fieldR (q := 4) (ft := 4) Try.underlying97 rfl sz4 rfl rfl) (fun _ _ => rfl) (Ent.sep enn) ?_)
        refine Hd.onlyH 10 rfl (by kernel_rfl) ?_
        first | (refine Hd.store1 sz4 rfl rfl rfl pkk (by first | decide | (simp; done) | (simp; omega)) ?_) | (refine Hd.storeG1 sz4 rfl rfl rfl pkk (by first | decide | (simp; done) | (simp; omega)) ?_) | (refine Hd.storeO1 sz4 rfl rfl rfl pkk (by first | omega | (simp; done) | (simp; omega)) ?_)
        try simp only [List.set_cons_zero, List.set_cons_succ]
        refine Hd.nil ?_
        refine Hd.thenN ?_
        refine Hd.heldK (J := (fun j => !(([1000] : List Nat).contains j))) (i := 10) (Ent.sep enn) ?_
        refine Hd.endH (by kernel_rfl) ?_
        refine Hd.slots [(4, _), (5, _), (6, _), (8, _), (9, _), (10, _)] ⟨rfl, rfl, rfl, rfl, rfl, rfl, trivial⟩ ?_
        refine Hd.toK hK11 ?_
        refine Hd.seq (fun K12 hK12 => ?_)
        refine Hd.region ?_
        first | (refine Hd.yv (y_field' (q := 2) (ft := 83) Try.underlying85 rfl sz83 rfl rfl) ?_) | (refine Hd.yv (y_fieldR (q := 2) (ft := 83) Try.underlying85 rfl sz83 rfl rfl) ?_)
        first | (refine Hd.yv (y_load1 ag83 rfl (Rd.pt1 pkk (by (first | rfl)))) ?_) | (refine Hd.yv (y_load1 ag83 rfl (Rd.seg1 pkk (by (first | rfl)))) ?_) | (refine Hd.yv (y_loadR1 ag83 rfl (by (first | exact RdS.own pkk)) (by (first | rfl))) ?_)
        refine Hd.yv (y_to (v' := .bool (x.e k).rd) (y_neq_pointer Try.underlying83 rfl rfl) (by (show Value.bool (!Option.isNone _) = _; rw [ptr_no, hp0, Bool.not_not]))) ?_
        refine Hd.yv (y_move rfl) ?_
        apply Hd.andg (q := ((decide (((x.e k).b.length : Int) > 0) || silentW x k) || x.rs)) 17 66 83 [(4, _), (6, _), (8, _), (9, _), (10, _)] rfl ⟨rfl, rfl, rfl, rfl, rfl, trivial⟩
        · intro hg10_66
          try simp only [decide_eq_true_eq, decide_eq_false_iff_not, Bool.and_eq_true, Bool.or_eq_true, Bool.and_eq_false_iff, Bool.or_eq_false_iff, Bool.not_eq_true', Bool.not_eq_false', Bool.not_eq_true, Bool.not_eq_false, Int.not_lt, Int.not_le, Decidable.not_not, ne_eq] at hg10_66
          simp only [List.take]
          first | (refine Hd.yg rfl rfl (y_field' (q := 2) (ft := 83) Try.underlying85 rfl sz83 rfl rfl) ?_) | (refine Hd.yg rfl rfl (y_fieldR (q := 2) (ft := 83) Try.underlying85 rfl sz83 rfl rfl) ?_)
          first | (refine Hd.yg rfl rfl (y_load1 ag83 rfl (Rd.pt1 pkk (by (first | rfl)))) ?_) | (refine Hd.yg rfl rfl (y_load1 ag83 rfl (Rd.seg1 pkk (by (first | rfl)))) ?_) | (refine Hd.yg rfl rfl (y_loadR1 ag83 rfl (by (first | exact RdS.own pkk)) (by (first | rfl))) ?_)
          refine Hd.unguard rfl rfl ?_
          refine Hd.callE rfl fk68 (rlenO_ct _ (i2.p k) (by rw [hp0]; exact hg10_66) x.cap (x.e k).b) (Ent.sep enn) ?_
          intro _
          refine Hd.yg rfl rfl (y_gtr rfl rfl) ?_
          refine Hd.yg rfl rfl (y_move rfl) ?_
          apply Hd.org 5 71 76 [(4, _), (6, _), (8, _), (9, _), (10, _), (66, _)] rfl ⟨rfl, rfl, rfl, rfl, rfl, rfl, trivial⟩
          · intro hg10_71
            try simp only [decide_eq_true_eq, decide_eq_false_iff_not, Bool.and_eq_true, Bool.or_eq_true, Bool.and_eq_false_iff, Bool.or_eq_false_iff, Bool.not_eq_true', Bool.not_eq_false', Bool.not_eq_true, Bool.not_eq_false, Int.not_lt, Int.not_le, Decidable.not_not, ne_eq] at hg10_71
            simp only [List.take]
            refine Hd.ng rfl rfl rfl ?_
            refine Hd.ng rfl rfl rfl ?_
            refine Hd.ng rfl rfl rfl ?_
            refine Hd.ng rfl rfl rfl ?_
            first | (refine Hd.yg rfl rfl (y_pickT rfl rfl) ?_) | (refine Hd.yg rfl rfl (y_pickF rfl rfl) ?_) | (refine Hd.yg rfl rfl (y_pickb rfl rfl rfl) ?_) | (refine Hd.yg rfl rfl (y_pick rfl rfl rfl) ?_)
            refine Hd.nil ?_
            exact Hd.mend (by repeat (first | exact trivial | refine ⟨rfl, ?_⟩)) (Ent.sep enn)
          · intro hg10_71
            try simp only [decide_eq_true_eq, decide_eq_false_iff_not, Bool.and_eq_true, Bool.or_eq_true, Bool.and_eq_false_iff, Bool.or_eq_false_iff, Bool.not_eq_true', Bool.not_eq_false', Bool.not_eq_true, Bool.not_eq_false, Int.not_lt, Int.not_le, Decidable.not_not, ne_eq] at hg10_71
            simp only [List.take]
            refine Hd.yg rfl rfl (y_move rfl) ?_
            first | (refine Hd.yg rfl rfl (y_field' (q := 2) (ft := 3) Try.underlying75 rfl sz3 rfl rfl) ?_) | (refine Hd.yg rfl rfl (y_fieldR (q := 2) (ft := 3) Try.underlying75 rfl sz3 rfl rfl) ?_)
            first | (refine Hd.yg rfl rfl (y_load1 ag3 rfl (Rd.pt1 pkk (by (first | rfl)))) ?_) | (refine Hd.yg rfl rfl (y_load1 ag3 rfl (Rd.seg1 pkk (by (first | rfl)))) ?_) | (refine Hd.yg rfl rfl (y_loadR1 ag3 rfl (by (first | exact RdS.own pkk)) (by (first | rfl))) ?_)
            refine Hd.unguard rfl rfl ?_
            refine Hd.callE rfl fk69 (silentL_ct _ b x i2 k hk) (Ent.sep enn) ?_
            intro _
            first | (refine Hd.yg rfl rfl (y_pickT rfl rfl) ?_) | (refine Hd.yg rfl rfl (y_pickF rfl rfl) ?_) | (refine Hd.yg rfl rfl (y_pickb rfl rfl rfl) ?_) | (refine Hd.yg rfl rfl (y_pick rfl rfl rfl) ?_)
            refine Hd.nil ?_
            exact Hd.mend (by repeat (first | exact trivial | refine ⟨rfl, ?_⟩)) (Ent.sep enn)
          simp only [List.drop]
          refine Hd.yg rfl rfl (y_move rfl) ?_
          apply Hd.org 5 77 82 [(4, _), (6, _), (8, _), (9, _), (10, _), (66, _)] rfl ⟨rfl, rfl, rfl, rfl, rfl, rfl, trivial⟩
          · intro hg10_77
            try simp only [decide_eq_true_eq, decide_eq_false_iff_not, Bool.and_eq_true, Bool.or_eq_true, Bool.and_eq_false_iff, Bool.or_eq_false_iff, Bool.not_eq_true', Bool.not_eq_false', Bool.not_eq_true, Bool.not_eq_false, Int.not_lt, Int.not_le, Decidable.not_not, ne_eq] at hg10_77
            simp only [List.take]
            refine Hd.ng rfl rfl rfl ?_
            refine Hd.ng rfl rfl rfl ?_
            refine Hd.ng rfl rfl rfl ?_
            refine Hd.ng rfl rfl rfl ?_
            first | (refine Hd.yg rfl rfl (y_pickT rfl rfl) ?_) | (refine Hd.yg rfl rfl (y_pickF rfl rfl) ?_) | (refine Hd.yg rfl rfl (y_pickb rfl rfl rfl) ?_) | (refine Hd.yg rfl rfl (y_pick rfl rfl rfl) ?_)
            refine Hd.nil ?_
            exact Hd.mend (by repeat (first | exact trivial | refine ⟨rfl, ?_⟩)) (Ent.sep enn)
          · intro hg10_77
            try simp only [decide_eq_true_eq, decide_eq_false_iff_not, Bool.and_eq_true, Bool.or_eq_true, Bool.and_eq_false_iff, Bool.or_eq_false_iff, Bool.not_eq_true', Bool.not_eq_false', Bool.not_eq_true, Bool.not_eq_false, Int.not_lt, Int.not_le, Decidable.not_not, ne_eq] at hg10_77
            simp only [List.take]
            refine Hd.yg rfl rfl (y_move rfl) ?_
            refine Hd.yg rfl rfl (y_nilp rfl) ?_
            first | (refine Hd.yg rfl rfl (y_field' (q := 14) (ft := 4) Try.underlying88 rfl sz4 rfl rfl) ?_) | (refine Hd.yg rfl rfl (y_fieldR (q := 14) (ft := 4) Try.underlying88 rfl sz4 rfl rfl) ?_)
            first | (refine Hd.yg rfl rfl (y_load1 ag4 rfl (Rd.pt1 pkk (by (first | rfl)))) ?_) | (refine Hd.yg rfl rfl (y_load1 ag4 rfl (Rd.seg1 pkk (by (first | rfl)))) ?_) | (refine Hd.yg rfl rfl (y_loadR1 ag4 rfl (by (first | exact RdS.own pkk)) (by (first | rfl))) ?_)
            first | (refine Hd.yg rfl rfl (y_pickT rfl rfl) ?_) | (refine Hd.yg rfl rfl (y_pickF rfl rfl) ?_) | (refine Hd.yg rfl rfl (y_pickb rfl rfl rfl) ?_) | (refine Hd.yg rfl rfl (y_pick rfl rfl rfl) ?_)
            refine Hd.nil ?_
            exact Hd.mend (by repeat (first | exact trivial | refine ⟨rfl, ?_⟩)) (Ent.sep enn)
          simp only [List.drop]
          first | (refine Hd.yv (y_pickT rfl rfl) ?_) | (refine Hd.yv (y_pickF rfl rfl) ?_) | (refine Hd.yv (y_pickb rfl rfl rfl) ?_) | (refine Hd.yv (y_pick rfl rfl rfl) ?_)
          refine Hd.nil ?_
          exact Hd.mend (by repeat (first | exact trivial | refine ⟨rfl, ?_⟩)) (Ent.sep enn)
        · intro hg10_66
          try simp only [decide_eq_true_eq, decide_eq_false_iff_not, Bool.and_eq_true, Bool.or_eq_true, Bool.and_eq_false_iff, Bool.or_eq_false_iff, Bool.not_eq_true', Bool.not_eq_false', Bool.not_eq_true, Bool.not_eq_false, Int.not_lt, Int.not_le, Decidable.not_not, ne_eq] at hg10_66
          simp only [List.take]
          refine Hd.ng rfl rfl rfl ?_
          refine Hd.ng rfl rfl rfl ?_
          refine Hd.ng rfl rfl rfl ?_
          refine Hd.ng rfl rfl rfl ?_
          refine Hd.ng rfl rfl rfl ?_
          refine Hd.ng rfl rfl rfl ?_
          refine Hd.ng rfl rfl rfl ?_
          refine Hd.ng rfl rfl rfl ?_
          refine Hd.ng rfl rfl rfl ?_
          refine Hd.ng rfl rfl rfl ?_
          refine Hd.ng rfl rfl rfl ?_
          refine Hd.ng rfl rfl rfl ?_
          refine Hd.ng rfl rfl rfl ?_
          refine Hd.ng rfl rfl rfl ?_
          refine Hd.ng rfl rfl rfl ?_
          refine Hd.ng rfl rfl rfl ?_
          first | (refine Hd.yv (y_pickT rfl rfl) ?_) | (refine Hd.yv (y_pickF rfl rfl) ?_) | (refine Hd.yv (y_pickb rfl rfl rfl) ?_) | (refine Hd.yv (y_pick rfl rfl rfl) ?_)
          refine Hd.nil ?_
          exact Hd.mend (by repeat (first | exact trivial | refine ⟨rfl, ?_⟩)) (Ent.sep enn)
        simp only [List.drop]
        first | (refine Hd.yv (y_field' (q := 1) (ft := 4) Try.underlying97 rfl sz4 rfl rfl) ?_) | (refine Hd.yv (y_fieldR (q := 1) (ft := 4) Try.underlying97 rfl sz4 rfl rfl) ?_)
        first | (refine Hd.store1 sz4 rfl rfl rfl pkk (by first | decide | (simp; done) | (simp; omega)) ?_) | (refine Hd.storeG1 sz4 rfl rfl rfl pkk (by first | decide | (simp; done) | (simp; omega)) ?_) | (refine Hd.storeO1 sz4 rfl rfl rfl pkk (by first | omega | (simp; done) | (simp; omega)) ?_)
        try simp only [List.set_cons_zero, List.set_cons_succ]
        refine Hd.nil ?_
        refine Hd.slots [(4, _), (6, _), (8, _), (9, _), (10, _)] ⟨rfl, rfl, rfl, rfl, rfl, trivial⟩ ?_
        refine Hd.toK hK12 ?_
        refine Hd.seq (fun K13 hK13 => ?_)
        refine Hd.region ?_
        first | (refine Hd.yv (y_field' (q := 3) (ft := 4) Try.underlying85 rfl sz4 rfl rfl) ?_) | (refine Hd.yv (y_fieldR (q := 3) (ft := 4) Try.underlying85 rfl sz4 rfl rfl) ?_)
        first | (refine Hd.yv (y_load1 ag4 rfl (Rd.pt1 pkk (by (first | rfl)))) ?_) | (refine Hd.yv (y_load1 ag4 rfl (Rd.seg1 pkk (by (first | rfl)))) ?_) | (refine Hd.yv (y_loadR1 ag4 rfl (by (first | exact RdS.own pkk)) (by (first | rfl))) ?_)
        refine Hd.yv (y_move rfl) ?_
        apply Hd.andg 4 87 91 [(4, _), (6, _), (9, _), (10, _)] rfl ⟨rfl, rfl, rfl, rfl, trivial⟩
        · intro hg11_87
          try simp only [decide_eq_true_eq, decide_eq_false_iff_not, Bool.and_eq_true, Bool.or_eq_true, Bool.and_eq_false_iff, Bool.or_eq_false_iff, Bool.not_eq_true', Bool.not_eq_false', Bool.not_eq_true, Bool.not_eq_false, Int.not_lt, Int.not_le, Decidable.not_not, ne_eq] at hg11_87
          simp only [List.take]
          first | (refine Hd.yg rfl rfl (y_field' (q := 4) (ft := 4) Try.underlying85 rfl sz4 rfl rfl) ?_) | (refine Hd.yg rfl rfl (y_fieldR (q := 4) (ft := 4) Try.underlying85 rfl sz4 rfl rfl) ?_)
          first | (refine Hd.yg rfl rfl (y_load1 ag4 rfl (Rd.pt1 pkk (by (first | rfl)))) ?_) | (refine Hd.yg rfl rfl (y_load1 ag4 rfl (Rd.seg1 pkk (by (first | rfl)))) ?_) | (refine Hd.yg rfl rfl (y_loadR1 ag4 rfl (by (first | exact RdS.own pkk)) (by (first | rfl))) ?_)
          refine Hd.yg rfl rfl (y_not rfl) ?_
          first | (refine Hd.yv (y_pickT rfl rfl) ?_) | (refine Hd.yv (y_pickF rfl rfl) ?_) | (refine Hd.yv (y_pickb rfl rfl rfl) ?_) | (refine Hd.yv (y_pick rfl rfl rfl) ?_)
          refine Hd.nil ?_
          exact Hd.mend (by repeat (first | exact trivial | refine ⟨rfl, ?_⟩)) (Ent.sep enn)
        · intro hg11_87
          try simp only [decide_eq_true_eq, decide_eq_false_iff_not, Bool.and_eq_true, Bool.or_eq_true, Bool.and_eq_false_iff, Bool.or_eq_false_iff, Bool.not_eq_true', Bool.not_eq_false', Bool.not_eq_true, Bool.not_eq_false, Int.not_lt, Int.not_le, Decidable.not_not, ne_eq] at hg11_87
          simp only [List.take]
          refine Hd.ng rfl rfl rfl ?_
          refine Hd.ng rfl rfl rfl ?_
          refine Hd.ng rfl rfl rfl ?_
          first | (refine Hd.yv (y_pickT rfl rfl) ?_) | (refine Hd.yv (y_pickF rfl rfl) ?_) | (refine Hd.yv (y_pickb rfl rfl rfl) ?_) | (refine Hd.yv (y_pick rfl rfl rfl) ?_)
          refine Hd.nil ?_
          exact Hd.mend (by repeat (first | exact trivial | refine ⟨rfl, ?_⟩)) (Ent.sep enn)
        simp only [List.drop]
        refine Hd.yv (y_move rfl) ?_
        apply Hd.andg (q := ((decide ((x.e (1 - k)).what = 3) || x.rs) || decide (((x.cap - (x.e (1 - k)).b.length : Nat) : Int) > 0))) 15 92 107 [(4, _), (10, _)] rfl ⟨rfl, rfl, trivial⟩
        · intro hg11_92
          try simp only [decide_eq_true_eq, decide_eq_false_iff_not, Bool.and_eq_true, Bool.or_eq_true, Bool.and_eq_false_iff, Bool.or_eq_false_iff, Bool.not_eq_true', Bool.not_eq_false', Bool.not_eq_true, Bool.not_eq_false, Int.not_lt, Int.not_le, Decidable.not_not, ne_eq] at hg11_92
          simp only [List.take]
          first | (refine Hd.yg rfl rfl (y_field' (q := 3) (ft := 4) Try.underlying97 rfl sz4 rfl rfl) ?_) | (refine Hd.yg rfl rfl (y_fieldR (q := 3) (ft := 4) Try.underlying97 rfl sz4 rfl rfl) ?_)
          first | (refine Hd.yg rfl rfl (y_load1 ag4 rfl (Rd.pt1 pkk (by (first | rfl)))) ?_) | (refine Hd.yg rfl rfl (y_load1 ag4 rfl (Rd.seg1 pkk (by (first | rfl)))) ?_) | (refine Hd.yg rfl rfl (y_loadR1 ag4 rfl (by (first | exact RdS.own pkk)) (by (first | rfl))) ?_)
          refine Hd.yg rfl rfl (y_move rfl) ?_
          apply Hd.org 5 95 100 [(4, _), (9, _), (10, _), (92, _)] rfl ⟨rfl, rfl, rfl, rfl, trivial⟩
          · intro hg11_95
            try simp only [decide_eq_true_eq, decide_eq_false_iff_not, Bool.and_eq_true, Bool.or_eq_true, Bool.and_eq_false_iff, Bool.or_eq_false_iff, Bool.not_eq_true', Bool.not_eq_false', Bool.not_eq_true, Bool.not_eq_false, Int.not_lt, Int.not_le, Decidable.not_not, ne_eq] at hg11_95
            simp only [List.take]
            refine Hd.ng rfl rfl rfl ?_
            refine Hd.ng rfl rfl rfl ?_
            refine Hd.ng rfl rfl rfl ?_
            refine Hd.ng rfl rfl rfl ?_
            first | (refine Hd.yg rfl rfl (y_pickT rfl rfl) ?_) | (refine Hd.yg rfl rfl (y_pickF rfl rfl) ?_) | (refine Hd.yg rfl rfl (y_pickb rfl rfl rfl) ?_) | (refine Hd.yg rfl rfl (y_pick rfl rfl rfl) ?_)
            refine Hd.nil ?_
            exact Hd.mend (by repeat (first | exact trivial | refine ⟨rfl, ?_⟩)) (Ent.sep enn)
          · intro hg11_95
            try simp only [decide_eq_true_eq, decide_eq_false_iff_not, Bool.and_eq_true, Bool.or_eq_true, Bool.and_eq_false_iff, Bool.or_eq_false_iff, Bool.not_eq_true', Bool.not_eq_false', Bool.not_eq_true, Bool.not_eq_false, Int.not_lt, Int.not_le, Decidable.not_not, ne_eq] at hg11_95
            simp only [List.take]
            refine Hd.yg rfl rfl (y_move rfl) ?_
            refine Hd.yg rfl rfl (y_nilp rfl) ?_
            first | (refine Hd.yg rfl rfl (y_field' (q := 14) (ft := 4) Try.underlying88 rfl sz4 rfl rfl) ?_) | (refine Hd.yg rfl rfl (y_fieldR (q := 14) (ft := 4) Try.underlying88 rfl sz4 rfl rfl) ?_)
            first | (refine Hd.yg rfl rfl (y_load1 ag4 rfl (Rd.pt1 pkk (by (first | rfl)))) ?_) | (refine Hd.yg rfl rfl (y_load1 ag4 rfl (Rd.seg1 pkk (by (first | rfl)))) ?_) | (refine Hd.yg rfl rfl (y_loadR1 ag4 rfl (by (first | exact RdS.own pkk)) (by (first | rfl))) ?_)
            first | (refine Hd.yg rfl rfl (y_pickT rfl rfl) ?_) | (refine Hd.yg rfl rfl (y_pickF rfl rfl) ?_) | (refine Hd.yg rfl rfl (y_pickb rfl rfl rfl) ?_) | (refine Hd.yg rfl rfl (y_pick rfl rfl rfl) ?_)
            refine Hd.nil ?_
            exact Hd.mend (by repeat (first | exact trivial | refine ⟨rfl, ?_⟩)) (Ent.sep enn)
          simp only [List.drop]
          refine Hd.yg rfl rfl (y_move rfl) ?_
          apply Hd.org 5 101 106 [(4, _), (10, _), (92, _)] rfl ⟨rfl, rfl, rfl, trivial⟩
          · intro hg11_101
            try simp only [decide_eq_true_eq, decide_eq_false_iff_not, Bool.and_eq_true, Bool.or_eq_true, Bool.and_eq_false_iff, Bool.or_eq_false_iff, Bool.not_eq_true', Bool.not_eq_false', Bool.not_eq_true, Bool.not_eq_false, Int.not_lt, Int.not_le, Decidable.not_not, ne_eq] at hg11_101
            simp only [List.take]
            refine Hd.ng rfl rfl rfl ?_
            refine Hd.ng rfl rfl rfl ?_
            refine Hd.ng rfl rfl rfl ?_
            refine Hd.ng rfl rfl rfl ?_
            first | (refine Hd.yg rfl rfl (y_pickT rfl rfl) ?_) | (refine Hd.yg rfl rfl (y_pickF rfl rfl) ?_) | (refine Hd.yg rfl rfl (y_pickb rfl rfl rfl) ?_) | (refine Hd.yg rfl rfl (y_pick rfl rfl rfl) ?_)
            refine Hd.nil ?_
            exact Hd.mend (by repeat (first | exact trivial | refine ⟨rfl, ?_⟩)) (Ent.sep enn)
          · intro hg11_101
            try simp only [decide_eq_true_eq, decide_eq_false_iff_not, Bool.and_eq_true, Bool.or_eq_true, Bool.and_eq_false_iff, Bool.or_eq_false_iff, Bool.not_eq_true', Bool.not_eq_false', Bool.not_eq_true, Bool.not_eq_false, Int.not_lt, Int.not_le, Decidable.not_not, ne_eq] at hg11_101
            simp only [List.take]
            first | (refine Hd.yg rfl rfl (y_field' (q := 2) (ft := 83) Try.underlying85 rfl sz83 rfl rfl) ?_) | (refine Hd.yg rfl rfl (y_fieldR (q := 2) (ft := 83) Try.underlying85 rfl sz83 rfl rfl) ?_)
            first | (refine Hd.yg rfl rfl (y_load1 ag83 rfl (Rd.pt1 pkk (by (first | rfl)))) ?_) | (refine Hd.yg rfl rfl (y_load1 ag83 rfl (Rd.seg1 pkk (by (first | rfl)))) ?_) | (refine Hd.yg rfl rfl (y_loadR1 ag83 rfl (by (first | exact RdS.own pkk)) (by (first | rfl))) ?_)
            refine Hd.unguard rfl rfl ?_
            refine Hd.callE rfl fk70 (rroomO_ct _ (i2.p (1 - k)) (by rw [hp1]; exact hg11_92.1) x.cap (x.e (1 - k)).b) (Ent.sep enn) ?_
            intro _
            refine Hd.yg rfl rfl (y_gtr rfl rfl) ?_
            first | (refine Hd.yg rfl rfl (y_pickT rfl rfl) ?_) | (refine Hd.yg rfl rfl (y_pickF rfl rfl) ?_) | (refine Hd.yg rfl rfl (y_pickb rfl rfl rfl) ?_) | (refine Hd.yg rfl rfl (y_pick rfl rfl rfl) ?_)
            refine Hd.nil ?_
            exact Hd.mend (by repeat (first | exact trivial | refine ⟨rfl, ?_⟩)) (Ent.sep enn)
          simp only [List.drop]
          first | (refine Hd.yv (y_pickT rfl rfl) ?_) | (refine Hd.yv (y_pickF rfl rfl) ?_) | (refine Hd.yv (y_pickb rfl rfl rfl) ?_) | (refine Hd.yv (y_pick rfl rfl rfl) ?_)
          refine Hd.nil ?_
          exact Hd.mend (by repeat (first | exact trivial | refine ⟨rfl, ?_⟩)) (Ent.sep enn)
        · intro hg11_92
          try simp only [decide_eq_true_eq, decide_eq_false_iff_not, Bool.and_eq_true, Bool.or_eq_true, Bool.and_eq_false_iff, Bool.or_eq_false_iff, Bool.not_eq_true', Bool.not_eq_false', Bool.not_eq_true, Bool.not_eq_false, Int.not_lt, Int.not_le, Decidable.not_not, ne_eq] at hg11_92
          simp only [List.take]
          refine Hd.ng rfl rfl rfl ?_
          refine Hd.ng rfl rfl rfl ?_
          refine Hd.ng rfl rfl rfl ?_
          refine Hd.ng rfl rfl rfl ?_
          refine Hd.ng rfl rfl rfl ?_
          refine Hd.ng rfl rfl rfl ?_
          refine Hd.ng rfl rfl rfl ?_
          refine Hd.ng rfl rfl rfl ?_
          refine Hd.ng rfl rfl rfl ?_
          refine Hd.ng rfl rfl rfl ?_
          refine Hd.ng rfl rfl rfl ?_
          refine Hd.ng rfl rfl rfl ?_
          refine Hd.ng rfl rfl rfl ?_
          refine Hd.ng rfl rfl rfl ?_
          first | (refine Hd.yv (y_pickT rfl rfl) ?_) | (refine Hd.yv (y_pickF rfl rfl) ?_) | (refine Hd.yv (y_pickb rfl rfl rfl) ?_) | (refine Hd.yv (y_pick rfl rfl rfl) ?_)
          refine Hd.nil ?_
          exact Hd.mend (by repeat (first | exact trivial | refine ⟨rfl, ?_⟩)) (Ent.sep enn)
        simp only [List.drop]
        first | (refine Hd.yv (y_field' (q := 2) (ft := 4) Try.underlying97 rfl sz4 rfl rfl) ?_) | (refine Hd.yv (y_fieldR (q := 2) (ft := 4) Try.underlying97 rfl sz4 rfl rfl) ?_)
        first | (refine Hd.store1 sz4 rfl rfl rfl pkk (by first | decide | (simp; done) | (simp; omega)) ?_) | (refine Hd.storeG1 sz4 rfl rfl rfl pkk (by first | decide | (simp; done) | (simp; omega)) ?_) | (refine Hd.storeO1 sz4 rfl rfl rfl pkk (by first | omega | (simp; done) | (simp; omega)) ?_)
        try simp only [List.set_cons_zero, List.set_cons_succ]
        refine Hd.nil ?_
        refine Hd.slots [(4, _), (10, _)] ⟨rfl, rfl, trivial⟩ ?_
        refine Hd.toK hK13 ?_
        refine Hd.seq (fun K14 hK14 => ?_)
        refine Hd.region ?_
        refine Hd.yv (y_loadn (us := encR (readyW x k)) ag97 rfl (Rd.pt pkk (fun j v e => by rw [Nat.zero_add]; rw [show readyW x k = _ from if_neg (by omega)] at e; exact e)) (by exact sz97)) ?_
        refine Hd.storeA (us := encR (readyW x k)) sz97 rfl rfl rfl (by simp [Value.oneCell']) pkk (by exact rfl) ?_
        refine Hd.nil ?_
        refine Hd.slots [(4, _)] ⟨rfl, trivial⟩ ?_
        refine Hd.toK hK14 ?_
        refine Hd.ret ?_
        clear hK1 hK2 hK3 hK4 hK6 hK7 hK8 hK11 hK12 hK13 hK14
        rw [hrd]
        exact Hd.retC rfl () ag97 rfl (Rd.pt (us := encR (readyW x k)) pkk (fun j v e => by rw [Nat.zero_add]; exact e)) (by exact sz97) rfl (fun q s => world_back hw hrs hb hi hk q (Ent.sep enn q s))
end Wo
end Go.Proofs.Ytbfddabjbkohdaa
namespace Go.Proofs.Ytbfddabjbkohdaa
set_option linter.unusedSimpArgs false
set_option linter.unusedVariables false
set_option linter.unnecessarySimpa false
open Go.RX Fx
namespace Wo
set_option maxRecDepth 8000
def fullE : EndA := ⟨0, 0, true, true, [], false, 0, 0⟩
def blankE : EndA := ⟨0, 0, false, false, [], false, 0, 0⟩
def halfW (n k : Nat) : WireA := ⟨fun j => if j < k then fullE else blankE, n, false, 0, []⟩
def WI.setp (i : WI) (k rb : Nat) : WI := { i with p := fun j => if j = k then some rb else i.p j }
theorem enc_setp {x : WireA} {i : WI} {k rb : Nat} (hk : k < 2) : (encW x i).set (0 + 0 + k * 7 + 2) (.pointer (some ⟨rb, 0, none⟩)) = encW x (i.setp k rb) := by
  rcases (show k = 0 ∨ k = 1 by omega) with rfl | rfl <;> rfl
theorem half_wi {n k : Nat} {i : WI} (hi : WIOk (halfW n k) i) (hk : k < 2) (rb : Nat) : WIOk (halfW n (k + 1)) (i.setp k rb) := ⟨fun j hj => by
  show (if j = k then some rb else i.p j).isSome = _
  have h := hi.rd j hj
  by_cases e : j = k
  · subst e
    rw [if_pos rfl]
    show true = (if j < j + 1 then fullE else blankE).rd
    rw [if_pos (by omega)]; rfl
  · rw [if_neg e, h]
    show (if j < k then fullE else blankE).rd = (if j < k + 1 then fullE else blankE).rd
    by_cases h1 : j < k
    · rw [if_pos h1, if_pos (by omega)]
    · rw [if_neg h1, if_neg (by omega)]⟩
theorem half_none {n k : Nat} {i : WI} (hi : WIOk (halfW n k) i) (hk : k < 2) : i.p k = none := by
  have h := hi.rd k hk
  have : ((halfW n k).e k).rd = false := by show (if k < k then fullE else blankE).rd = false; rw [if_neg (by omega)]; rfl
  rw [this] at h
  cases hp : i.p k with
  | none => rfl
  | some v => rw [hp] at h; cases h
theorem half_up {n k : Nat} {i : WI} (hk : k < 2) : encW ((halfW n k).up k fun e => { e with wr := true }) i = encW (halfW n (k + 1)) i := by
  rcases (show k = 0 ∨ k = 1 by omega) with rfl | rfl <;> rfl
set_option maxHeartbeats 2000000 in
theorem both_ct (L : List SP) (n : Nat) (h1 : 1 ≤ n) (h2 : n ≤ 65536) : Ct Try.prog 34 #[.int .i64 (n : Int)] (L) (fun b : Nat => .pointer (some ⟨b, 0, none⟩)) (fun b : Nat => WireP b (halfW n 2) :: L) := by
  refine Ct.of (vs := [.int .i64 (n : Int)]) Try.func34 rfl rfl [(0, .int .i64 (n : Int))] (by repeat (first | exact trivial | refine ⟨rfl, ?_⟩)) ?_
  intro E
  show Hd E 29 _ _ _ _
  refine Hd.seq (fun K1 hK1 => ?_)
  refine Hd.region ?_
  refine Hd.yv (y_assign rfl) ?_
  refine Hd.nil ?_
  refine Hd.slots [(0, _)] ⟨rfl, trivial⟩ ?_
  refine Hd.toK hK1 ?_
  refine Hd.seq (fun K2 hK2 => ?_)
  refine Hd.region ?_
  refine Hd.yv (y_build (vs := []) rfl (by first | exact bd34_5 .. | kernel_rfl)) ?_
  refine Hd.box rfl rfl (fun b6 => ?_)
  refine Hd.yv (y_assign rfl) ?_
  refine Hd.nil ?_
  refine Hd.heap (WireP b6 (halfW n 0) :: L) (fun q s => Ent.sep (.ex (⟨fun _ => none, none, 0⟩, 0) (.pure ⟨⟨fun j _ => rfl⟩, by omega⟩ (.eq pkk (pt_eq (by rfl)) (.pure trivial (.pure trivial (.ownNil enn)))))) q s) ?_
  refine Hd.slots [(0, _), (3, _)] ⟨rfl, rfl, trivial⟩ ?_
  refine Hd.toK hK2 ?_
  refine Hd.seq (fun K3 hK3 => ?_)
  refine Hd.seq (fun K4 hK4 => ?_)
  refine Hd.region ?_
  refine Hd.yv (y_move rfl) ?_
  refine Hd.nil ?_
  refine Hd.slots [(0, _), (3, _), (7, _)] ⟨rfl, rfl, rfl, trivial⟩ ?_
  refine Hd.toK hK4 ?_
  refine Hd.block ?_
  refine Hd.loopK (ι := Nat) [(0, _), (3, _)] (fun k => [(7, .int .i64 (k : Int))]) (fun k => pu (k ≤ 2) :: WireP b6 (halfW n k) :: L) (fun k => 2 - k) 0 (by repeat (first | exact trivial | refine ⟨rfl, ?_⟩)) (by repeat (first | exact trivial | refine ⟨rfl, ?_⟩)) (Ent.sep (.pure (by first | omega | (simp; done) | (simp; omega) | exact ⟨by simp, by simp⟩) enn)) ?_
  intro k
  try dsimp only
  refine Hd.pure (fun hp0 => ?_)
  try dsimp only at hp0
  refine Hd.seq (fun K5 hK5 => ?_)
  refine Hd.region ?_
  refine Hd.yv (y_lss rfl rfl) ?_
  refine Hd.nil ?_
  refine Hd.slots [(0, _), (3, _), (7, _), (8, _)] ⟨rfl, rfl, rfl, rfl, trivial⟩ ?_
  refine Hd.toK hK5 ?_
  refine Hd.seq (fun K6 hK6 => ?_)
  refine Hd.cond rfl (fun hc0 => ?_) (fun hc0 => ?_)
  ·
    try simp only [decide_eq_true_eq, decide_eq_false_iff_not, Bool.and_eq_true, Bool.or_eq_true, Bool.and_eq_false_iff, Bool.or_eq_false_iff, Bool.not_eq_true', Bool.not_eq_false', Bool.not_eq_true, Bool.not_eq_false, Int.not_lt, Int.not_le, Decidable.not_not, ne_eq] at hc0
    have hk : k < 2 := by omega
    refine Hd.wire .here k hk (fun i hi => ?_)
    have hpn := half_none hi hk
    refine Hd.skip ?_
    refine Hd.toK hK6 ?_
    refine Hd.seq (fun K7 hK7 => ?_)
    refine Hd.block ?_
    refine Hd.seq (fun K8 hK8 => ?_)
    refine Hd.region ?_
    refine Hd.yv (y_move rfl) ?_
    refine Hd.yv (y_assign rfl) ?_
    refine Hd.nil ?_
    refine Hd.slots [(0, _), (3, _), (4, _), (7, _)] ⟨rfl, rfl, rfl, rfl, trivial⟩ ?_
    refine Hd.toK hK8 ?_
    refine Hd.seq (fun K9 hK9 => ?_)
    refine Hd.drawsH ([]) (fun j => !(([1000] : List Nat).contains j)) mixed ?_
    simp only [List.length, Nat.zero_add, Nat.reduceAdd]
    refine Hd.takeH 0 rfl (by kernel_rfl) (by kernel_rfl) (by kernel_rfl) (by kernel_rfl) (y_move rfl) (fun _ _ => rfl) (Ent.sep enn) ?_
    refine Hd.takeH 1 rfl (by kernel_rfl) (by kernel_rfl) (by kernel_rfl) (by kernel_rfl) (y_move rfl) (fun _ _ => rfl) (Ent.sep enn) ?_
    refine Hd.takeH 2 rfl (by kernel_rfl) (by kernel_rfl) (by kernel_rfl) (by kernel_rfl) (y_move rfl) (fun _ _ => rfl) (Ent.sep enn) ?_
    refine Hd.takeH 7 rfl (by kernel_rfl) (by kernel_rfl) (by kernel_rfl) (by kernel_rfl) (y_nilp rfl) (fun _ _ => rfl) (Ent.sep enn) ?_
    first | (refine Hd.takeH 8 rfl (by kernel_rfl) (by kernel_rfl) (by kernel_rfl) (by kernel_rfl) (y_field' (q := 0) (ft := 86) Try.underlying88 rfl sz86 rfl rfl) (fun _ _ => rfl) (Ent.sep enn) ?_) | (refine Hd.takeH 8 rfl (by kernel_rfl) (by kernel_rfl) (by kernel_rfl) (by kernel_rfl) (y_fieldR (q := 0) (ft := 86) Try.underlying88 rfl sz86 rfl rfl) (fun _ _ => rfl) (Ent.sep enn) ?_)
    refine Hd.onlyH 3 rfl (by kernel_rfl) ?_
    refine Hd.callE rfl fk64 (rnew_ct _ n h1 h2) (Ent.sep enn) ?_
    intro rb
    refine Hd.nil ?_
    refine Hd.thenN ?_
    refine Hd.heldK (J := (fun j => !(([1000] : List Nat).contains j))) (i := 3) (Ent.sep enn) ?_
    refine Hd.takeH 4 rfl (by kernel_rfl) (by kernel_rfl) (by kernel_rfl) (by kernel_rfl) (y_move rfl) (fun _ _ => rfl) (Ent.sep enn) ?_
    refine Hd.takeH 5 rfl (by kernel_rfl) (by kernel_rfl) (by kernel_rfl) (by kernel_rfl) (y_to (v' := .pointer (some ⟨rb, 0, none⟩)) (y_extract rfl rfl) (by rfl)) (fun _ _ => rfl) (Ent.sep enn) ?_
    refine Hd.takeH 6 rfl (by kernel_rfl) (by kernel_rfl) (by kernel_rfl) (by kernel_rfl) (y_extract rfl rfl) (fun _ _ => rfl) (Ent.sep enn) ?_
    first | (refine Hd.takeH 9 rfl (by kernel_rfl) (by kernel_rfl) (by kernel_rfl) (by kernel_rfl) (y_idxA Try.underlying86 sz85 rfl rfl (by first | omega | decide)) (fun _ _ => rfl) (Ent.sep enn) ?_) | (refine Hd.takeH 9 rfl (by kernel_rfl) (by kernel_rfl) (by kernel_rfl) (by kernel_rfl) (y_idxAR Try.underlying86 sz85 rfl rfl (by first | omega | decide)) (fun _ _ => rfl) (Ent.sep enn) ?_)
    first | (refine Hd.takeH 10 rfl (by kernel_rfl) (by kernel_rfl) (by kernel_rfl) (by kernel_rfl) (y_field' (q := 2) (ft := 83) Try.underlying85 rfl sz83 rfl rfl) (fun _ _ => rfl) (Ent.sep enn) ?_) | (refine Hd.takeH 10 rfl (by kernel_rfl) (by kernel_rfl) (by kernel_rfl) (by kernel_rfl) (y_fieldR (q := 2) (ft := 83) Try.underlying85 rfl sz83 rfl rfl) (fun _ _ => rfl) (Ent.sep enn) ?_)
    refine Hd.onlyH 11 rfl (by kernel_rfl) ?_
    first | (refine Hd.store1 sz83 rfl rfl rfl pkk (by first | decide | (simp; done) | (simp; omega)) ?_) | (refine Hd.storeG1 sz83 rfl rfl rfl pkk (by first | decide | (simp; done) | (simp; omega)) ?_) | (refine Hd.storeO1 sz83 rfl rfl rfl pkk (by first | omega | (simp; done) | (simp; omega)) ?_)
    try simp only [List.set_cons_zero, List.set_cons_succ]
    refine Hd.nil ?_
    refine Hd.thenN ?_
    refine Hd.heldK (J := (fun j => !(([1000] : List Nat).contains j))) (i := 11) (Ent.sep enn) ?_
    refine Hd.endH (by kernel_rfl) ?_
    rw [enc_setp hk]
    refine Hd.slots [(0, _), (3, _), (4, _), (7, _)] ⟨rfl, rfl, rfl, rfl, trivial⟩ ?_
    refine Hd.toK hK9 ?_
    refine Hd.region ?_
    refine Hd.yv (y_move rfl) ?_
    refine Hd.yv (y_move rfl) ?_
    refine Hd.yv (y_nilp rfl) ?_
    first | (refine Hd.yv (y_field' (q := 0) (ft := 86) Try.underlying88 rfl sz86 rfl rfl) ?_) | (refine Hd.yv (y_fieldR (q := 0) (ft := 86) Try.underlying88 rfl sz86 rfl rfl) ?_)
    first | (refine Hd.yv (y_idxA Try.underlying86 sz85 rfl rfl (by first | omega | decide)) ?_) | (refine Hd.yv (y_idxAR Try.underlying86 sz85 rfl rfl (by first | omega | decide)) ?_)
    first | (refine Hd.yv (y_field' (q := 3) (ft := 4) Try.underlying85 rfl sz4 rfl rfl) ?_) | (refine Hd.yv (y_fieldR (q := 3) (ft := 4) Try.underlying85 rfl sz4 rfl rfl) ?_)
    first | (refine Hd.store1 sz4 rfl rfl rfl pkk (by first | decide | (simp; done) | (simp; omega)) ?_) | (refine Hd.storeG1 sz4 rfl rfl rfl pkk (by first | decide | (simp; done) | (simp; omega)) ?_) | (refine Hd.storeO1 sz4 rfl rfl rfl pkk (by first | omega | (simp; done) | (simp; omega)) ?_)
    try simp only [List.set_cons_zero, List.set_cons_succ]
    refine Hd.nil ?_
    rw [show (encW (halfW n k) (i.setp k rb)).set (0 + 0 + k * 7 + 3) (.bool true) = encW ((halfW n k).up k fun e => { e with wr := true }) (i.setp k rb) from enc_set _ 3 hk (by omega) (by omega) rfl, half_up hk]
    refine Hd.slots [(0, _), (3, _), (7, _)] ⟨rfl, rfl, rfl, trivial⟩ ?_
    refine Hd.inB ?_
    refine Hd.toK hK7 ?_
    refine Hd.region ?_
    first | (refine Hd.yv (y_addn rfl rfl (by simp only [InK]; omega)) ?_) | (refine Hd.yv (y_add rfl rfl) ?_)
    refine Hd.yv (y_move rfl) ?_
    refine Hd.nil ?_
    refine Hd.slots [(0, _), (3, _), (7, _)] ⟨rfl, rfl, rfl, trivial⟩ ?_
    clear hK1 hK2 hK3 hK4 hK5 hK6 hK7 hK8 hK9
    refine Hd.thenN ?_
    refine Hd.heap (WireP b6 (halfW n (k + 1)) :: L) (fun q s => Ent.sep (.ex (i.setp k rb, k) (.pure ⟨half_wi hi hk rb, hk⟩ (.pick pkk (.eq pkk (show Rg rb n [] = RgO ((i.setp k rb).p k) n ((halfW n (k + 1)).e k).b by rcases (show k = 0 ∨ k = 1 by omega) with rfl | rfl <;> rfl) (.eq pkk (show RgO (i.p (1 - k)) (halfW n k).cap ((halfW n k).e (1 - k)).b = RgO ((i.setp k rb).p (1 - k)) n ((halfW n (k + 1)).e (1 - k)).b by rcases (show k = 0 ∨ k = 1 by omega) with rfl | rfl <;> rfl) (.eq pkk (show own 3 1 i.wa (halfW n k).wt.length i.wc (nats (halfW n k).wt) = own 3 1 i.wa (halfW n (k + 1)).wt.length i.wc (nats (halfW n (k + 1)).wt) from rfl) enn)))))) q s) ?_
    exact Hd.again (k + 1) (by first | omega | (simp only; omega) | (simp; omega)) (by repeat (first | exact trivial | refine ⟨rfl, ?_⟩)) (Ent.sep (.pure (by first | omega | (simp; done) | (simp; omega) | (dsimp only; omega)) enn))
  ·
    try simp only [decide_eq_true_eq, decide_eq_false_iff_not, Bool.and_eq_true, Bool.or_eq_true, Bool.and_eq_false_iff, Bool.or_eq_false_iff, Bool.not_eq_true', Bool.not_eq_false', Bool.not_eq_true, Bool.not_eq_false, Int.not_lt, Int.not_le, Decidable.not_not, ne_eq] at hc0
    obtain rfl : k = 2 := by omega
    refine Hd.exit ?_
    refine Hd.thenExit ?_
    refine Hd.thenExit ?_
    refine Hd.inBexit ?_
    refine Hd.toK hK3 ?_
    refine Hd.seq (fun K10 hK10 => ?_)
    refine Hd.region ?_
    refine Hd.yv (y_move rfl) ?_
    refine Hd.yv (y_assign rfl) ?_
    refine Hd.nil ?_
    refine Hd.slots [(2, _)] ⟨rfl, trivial⟩ ?_
    refine Hd.toK hK10 ?_
    refine Hd.ret ?_
    clear hK1 hK2 hK3 hK4 hK5 hK6 hK10
    exact Hd.ret1 rfl b6 rfl (Ent.sep enn)
def frees (t : Int → Option (Nat × Nat)) : List Nat := (List.range 96).filter fun fd : Nat => (t (fd : Int)).isNone
theorem flatP_drop {t : Int → Option (Nat × Nat)} : ∀ {l : List Nat} {i fd : Nat}, l[i]? = some fd → ((l.flatMap fun a : Nat => plc (t (a : Int))).drop (i * 3)).take 3 = plc (t (fd : Int))
  | [], _, _, h => by simp at h
  | a :: l, 0, fd, h => by
    obtain rfl : a = fd := by simpa using h
    have h3 : (plc (t (a : Int))).length = 3 := plc_len _
    rw [List.flatMap_cons, Nat.zero_mul, List.drop_zero, List.take_append_of_le_length (by omega), List.take_of_length_le (by omega)]
  | a :: l, i + 1, fd, h => by
    have h3 : (plc (t (a : Int))).length = 3 := plc_len _
    rw [List.flatMap_cons, show (i + 1) * 3 = 3 + i * 3 by omega, List.drop_append, h3, List.drop_of_length_le (by omega), List.nil_append, Nat.add_sub_cancel_left]
    exact flatP_drop (by simpa using h)
theorem fdC_drop {t : Int → Option (Nat × Nat)} {i : Nat} (h : i < 96) : ((fdC t).drop (i * 3)).take 3 = plc (t (i : Int)) := flatP_drop (by rw [List.getElem?_range h])
theorem range_succ_filter (f : Nat → Bool) (i : Nat) : (List.range (i + 1)).filter f = if f i = true then (List.range i).filter f ++ [i] else (List.range i).filter f := by
  rw [List.range_succ, List.filter_append]
  by_cases h : f i = true <;> simp [h]
theorem range_prefix (f : Nat → Bool) {i m : Nat} (h : i ≤ m) : (List.range i).filter f <+: (List.range m).filter f := by
  obtain ⟨d, rfl⟩ : ∃ d, m = i + d := ⟨m - i, by omega⟩
  rw [List.range_add, List.filter_append]
  exact List.prefix_append _ _
set_option maxHeartbeats 2000000 in
theorem free_ct (L : List SP) (wb : Nat) : Ct Try.prog 95 #[.pointer (some ⟨wb, 0, none⟩)] (L) (fun bx : Nat => .func (.func 111) #[] #[.pointer (some ⟨bx, 0, none⟩)]) (fun bx : Nat => pt bx [.pointer (some ⟨wb, 0, none⟩)] 27 :: L) := by
  refine Ct.of (vs := [.pointer (some ⟨wb, 0, none⟩)]) Try.func95 rfl rfl [(0, .pointer (some ⟨wb, 0, none⟩))] (by repeat (first | exact trivial | refine ⟨rfl, ?_⟩)) ?_
  intro E
  show Hd E 4 _ _ _ _
  refine Hd.seq (fun K1 hK1 => ?_)
  refine Hd.region ?_
  refine Hd.box rfl rfl (fun b1 => ?_)
  refine Hd.yv (y_assign rfl) ?_
  refine Hd.nil ?_
  refine Hd.slots [(1, _)] ⟨rfl, trivial⟩ ?_
  refine Hd.toK hK1 ?_
  refine Hd.seq (fun K2 hK2 => ?_)
  refine Hd.region ?_
  refine Hd.yv (y_mkf (fv := []) (cv := [_]) rfl rfl) ?_
  refine Hd.yv (y_assign rfl) ?_
  refine Hd.nil ?_
  refine Hd.slots [(2, _)] ⟨rfl, trivial⟩ ?_
  refine Hd.toK hK2 ?_
  refine Hd.ret ?_
  clear hK1 hK2
  exact Hd.ret1 rfl b1 rfl (Ent.sep enn)
abbrev encF (fd : Nat) : List Value := [.int .i64 (fd : Int)]
theorem free_it (wb bx n : Nat) (t : Int → Option (Nat × Nat)) (w : WA) (i0 : WoI) : RX.It Try.prog 111 [.pointer (some ⟨bx, 0, none⟩)] encF (fun ys => ys = frees t) (fun ys => ys <+: frees t)
    [pt bx [.pointer (some ⟨wb, 0, none⟩)] 27, WoH wb t w n i0] [WoH wb t w n i0] := by
  intro l J X hy
  refine Ct.of (vs := [.func (.yield l) #[] #[], .pointer (some ⟨bx, 0, none⟩)]) Try.func111 rfl rfl [(0, .func (.yield l) #[] #[]), (1, .pointer (some ⟨bx, 0, none⟩))] ⟨rfl, rfl, trivial⟩ ?_
  intro E
  show Hd E 23 _ _ _ _
  refine Hd.heap (pt bx [.pointer (some ⟨wb, 0, none⟩)] 27 :: WoH wb t w n i0 :: J []) (fun k h => by have := sep_app h; exact this) ?_
  refine Hd.seq (fun K1 hK1 => ?_)
  refine Hd.region ?_
  first | (refine Hd.yv (y_load1 ag27 rfl (Rd.pt1 pkk (by (first | exact plc0 _ | rfl)))) ?_) | (refine Hd.yv (y_load1 ag27 rfl (Rd.seg1 pkk (by (first | exact plc0 _ | rfl)))) ?_) | (refine Hd.yv (y_loadR1 ag27 rfl (by (first | exact RdS.own pkk)) (by (first | exact plc0 _ | rfl))) ?_)
  refine Hd.yv (y_nilp rfl) ?_
  first | (refine Hd.yv (y_field' (q := 0) (ft := 76) Try.underlying80 rfl sz76 rfl rfl) ?_) | (refine Hd.yv (y_fieldR (q := 0) (ft := 76) Try.underlying80 rfl sz76 rfl rfl) ?_)
  refine Hd.yv (y_loadn (us := fdC t) ag76 rfl (Rd.pt pkk (fun j v e => by rw [Nat.zero_add, List.getElem?_append_left (List.getElem?_eq_some_iff.1 e).1]; exact e)) (by rw [fdC_len]; exact sz76)) ?_
  refine Hd.yv (y_move rfl) ?_
  refine Hd.nil ?_
  refine Hd.slots [(0, _), (8, _), (9, _)] ⟨rfl, rfl, rfl, trivial⟩ ?_
  refine Hd.toK hK1 ?_
  refine Hd.block ?_
  refine Hd.loopK (ι := Nat) [(0, _), (8, _)] (fun i => [(9, .int .i64 (i : Int))]) (fun i => pu (i ≤ 96) :: pt bx [.pointer (some ⟨wb, 0, none⟩)] 27 :: WoH wb t w n i0 :: J ((List.range i).filter fun fd : Nat => (t (fd : Int)).isNone)) (fun i => 96 - i) 0 (by repeat (first | exact trivial | refine ⟨rfl, ?_⟩)) (by repeat (first | exact trivial | refine ⟨rfl, ?_⟩)) (Ent.sep (.pure (by first | omega | (simp; done) | (simp; omega) | exact ⟨by simp, by simp⟩) enn)) ?_
  intro i
  try dsimp only
  refine Hd.pure (fun hp0 => ?_)
  try dsimp only at hp0
  refine Hd.seq (fun K2 hK2 => ?_)
  refine Hd.region ?_
  refine Hd.yv (y_lss rfl rfl) ?_
  refine Hd.nil ?_
  refine Hd.slots [(0, _), (8, _), (9, _), (10, _)] ⟨rfl, rfl, rfl, rfl, trivial⟩ ?_
  refine Hd.toK hK2 ?_
  refine Hd.seq (fun K3 hK3 => ?_)
  refine Hd.cond rfl (fun hc0 => ?_) (fun hc0 => ?_)
  ·
    try simp only [decide_eq_true_eq, decide_eq_false_iff_not, Bool.and_eq_true, Bool.or_eq_true, Bool.and_eq_false_iff, Bool.or_eq_false_iff, Bool.not_eq_true', Bool.not_eq_false', Bool.not_eq_true, Bool.not_eq_false, Int.not_lt, Int.not_le, Decidable.not_not, ne_eq] at hc0
    have hi : i < 96 := by omega
    have hsf := range_succ_filter (fun fd : Nat => (t (fd : Int)).isNone) i
    refine Hd.skip ?_
    refine Hd.toK hK3 ?_
    refine Hd.seq (fun K4 hK4 => ?_)
    refine Hd.block ?_
    refine Hd.seq (fun K5 hK5 => ?_)
    refine Hd.region ?_
    refine Hd.yv (y_move rfl) ?_
    refine Hd.yv (y_indexn (us := plc (t (i : Int))) Try.underlying76 ag75 sz75 rfl rfl hi (fdC_drop hi)) ?_
    refine Hd.alloc zr75 (fun b4 => ?_)
    refine Hd.yv (y_assign rfl) ?_
    refine Hd.storeA (us := plc (t (i : Int))) (by rw [plc_len]; exact sz75) rfl rfl rfl (plc_one _) pkk (by rw [plc_len]; rfl) ?_
    refine Hd.nil ?_
    refine Hd.slots [(0, _), (3, _), (4, _), (8, _), (9, _)] ⟨rfl, rfl, rfl, rfl, rfl, trivial⟩ ?_
    refine Hd.toK hK5 ?_
    refine Hd.seq (fun K6 hK6 => ?_)
    refine Hd.region ?_
    first | (refine Hd.yv (y_field' (q := 0) (ft := 4) Try.underlying75 rfl sz4 rfl rfl) ?_) | (refine Hd.yv (y_fieldR (q := 0) (ft := 4) Try.underlying75 rfl sz4 rfl rfl) ?_)
    first | (refine Hd.yv (y_load1 ag4 rfl (Rd.pt1 pkk (by (first | exact plc0 _ | rfl)))) ?_) | (refine Hd.yv (y_load1 ag4 rfl (Rd.seg1 pkk (by (first | exact plc0 _ | rfl)))) ?_) | (refine Hd.yv (y_loadR1 ag4 rfl (by (first | exact RdS.own pkk)) (by (first | exact plc0 _ | rfl))) ?_)
    refine Hd.yv (y_not rfl) ?_
    refine Hd.yv (y_move rfl) ?_
    refine Hd.part (gd := 16) rfl (fun hg3_16 => ?_) (fun hg3_16 => ?_)
    ·
      try simp only [decide_eq_true_eq, decide_eq_false_iff_not, Bool.and_eq_true, Bool.or_eq_true, Bool.and_eq_false_iff, Bool.or_eq_false_iff, Bool.not_eq_true', Bool.not_eq_false', Bool.not_eq_true, Bool.not_eq_false, Int.not_lt, Int.not_le, Decidable.not_not, ne_eq] at hg3_16
      have hfr : (t (i : Int)).isNone = true := by cases h : t (i : Int) <;> simp [h] at hg3_16 ⊢
      rw [if_pos hfr] at hsf
      have hpr : ((List.range i).filter fun fd : Nat => (t (fd : Int)).isNone) ++ [i] <+: frees t := by rw [← hsf]; exact range_prefix _ hi
      refine Hd.yg rfl rfl (y_move rfl) ?_
      refine Hd.yg rfl rfl (y_move rfl) ?_
      refine Hd.unguard rfl rfl ?_
      refine Hd.yield (pre := (List.range i).filter fun fd : Nat => (t (fd : Int)).isNone) (c := i) (M := [pt bx [.pointer (some ⟨wb, 0, none⟩)] 27, WoH wb t w n i0]) hy rfl rfl hpr (fun k' h => sep_app (show sep ([pt bx [.pointer (some ⟨wb, 0, none⟩)] 27, WoH wb t w n i0] ++ J ((List.range i).filter fun fd : Nat => (t (fd : Int)).isNone)) k' from Ent.sep (show Ent _ (pt bx [.pointer (some ⟨wb, 0, none⟩)] 27 :: WoH wb t w n i0 :: J ((List.range i).filter fun fd : Nat => (t (fd : Int)).isNone)) from enn) k' h)) ?_
      intro yb
      refine Hd.yg rfl rfl (y_not rfl) ?_
      first | (refine Hd.yv (y_pickT rfl rfl) ?_) | (refine Hd.yv (y_pickF rfl rfl) ?_) | (refine Hd.yv (y_pickb rfl rfl rfl) ?_) | (refine Hd.yv (y_pick rfl rfl rfl) ?_)
      refine Hd.nil ?_
      refine Hd.slots [(0, _), (8, _), (9, _), (21, _)] ⟨rfl, rfl, rfl, rfl, trivial⟩ ?_
      refine Hd.toK hK6 ?_
      refine Hd.cond rfl (fun hc1 => ?_) (fun hc1 => ?_)
      ·
        try simp only [decide_eq_true_eq, decide_eq_false_iff_not, Bool.and_eq_true, Bool.or_eq_true, Bool.and_eq_false_iff, Bool.or_eq_false_iff, Bool.not_eq_true', Bool.not_eq_false', Bool.not_eq_true, Bool.not_eq_false, Int.not_lt, Int.not_le, Decidable.not_not, ne_eq] at hc1
        subst hc1
        simp only [cond_false]
        refine Hd.ret ?_
        refine Hd.inBret ?_
        refine Hd.thenRet ?_
        refine Hd.thenRet ?_
        refine Hd.inBret ?_
        clear hK1 hK2 hK3 hK4 hK5 hK6
        exact Hd.ret0 rfl (((List.range i).filter fun fd : Nat => (t (fd : Int)).isNone) ++ [i], false) rfl (fun k' h => Ent.sep (.pure hpr .same) k' (sep_right (fun k s => Ent.sep (show Ent [pt bx [.pointer (some ⟨wb, 0, none⟩)] 27, WoH wb t w n i0] [WoH wb t w n i0] from enn) k s) h))
      ·
        try simp only [decide_eq_true_eq, decide_eq_false_iff_not, Bool.and_eq_true, Bool.or_eq_true, Bool.and_eq_false_iff, Bool.or_eq_false_iff, Bool.not_eq_true', Bool.not_eq_false', Bool.not_eq_true, Bool.not_eq_false, Int.not_lt, Int.not_le, Decidable.not_not, ne_eq] at hc1
        subst hc1
        simp only [cond_true]
        refine Hd.heap (pt bx [.pointer (some ⟨wb, 0, none⟩)] 27 :: WoH wb t w n i0 :: J (((List.range i).filter fun fd : Nat => (t (fd : Int)).isNone) ++ [i])) (fun k' h => sep_app h) ?_
        rw [← hsf]
        refine Hd.skip ?_
        refine Hd.inB ?_
        refine Hd.toK hK4 ?_
        refine Hd.region ?_
        first | (refine Hd.yv (y_addn rfl rfl (by simp only [InK]; omega)) ?_) | (refine Hd.yv (y_add rfl rfl) ?_)
        refine Hd.yv (y_move rfl) ?_
        refine Hd.nil ?_
        refine Hd.slots [(0, _), (8, _), (9, _)] ⟨rfl, rfl, rfl, trivial⟩ ?_
        clear hK1 hK2 hK3 hK4 hK5 hK6
        refine Hd.thenN ?_
        exact Hd.again (i + 1) (by first | omega | (simp only; omega) | (simp; omega)) (by repeat (first | exact trivial | refine ⟨rfl, ?_⟩)) (Ent.sep (.pure (by first | omega | (simp; done) | (simp; omega) | (dsimp only; omega)) enn))
    ·
      try simp only [decide_eq_true_eq, decide_eq_false_iff_not, Bool.and_eq_true, Bool.or_eq_true, Bool.and_eq_false_iff, Bool.or_eq_false_iff, Bool.not_eq_true', Bool.not_eq_false', Bool.not_eq_true, Bool.not_eq_false, Int.not_lt, Int.not_le, Decidable.not_not, ne_eq] at hg3_16
      have hfr : (t (i : Int)).isNone = false := by cases h : t (i : Int) <;> simp [h] at hg3_16 ⊢
      rw [if_neg (by rw [hfr]; simp)] at hsf
      refine Hd.ng rfl rfl rfl ?_
      refine Hd.ng rfl rfl rfl ?_
      refine Hd.ng rfl rfl rfl ?_
      refine Hd.ng rfl rfl rfl ?_
      first | (refine Hd.yv (y_pickT rfl rfl) ?_) | (refine Hd.yv (y_pickF rfl rfl) ?_) | (refine Hd.yv (y_pickb rfl rfl rfl) ?_) | (refine Hd.yv (y_pick rfl rfl rfl) ?_)
      refine Hd.nil ?_
      refine Hd.slots [(0, _), (8, _), (9, _), (21, _)] ⟨rfl, rfl, rfl, rfl, trivial⟩ ?_
      refine Hd.toK hK6 ?_
      refine Hd.condF rfl ?_
      refine Hd.skip ?_
      refine Hd.inB ?_
      refine Hd.toK hK4 ?_
      refine Hd.region ?_
      first | (refine Hd.yv (y_addn rfl rfl (by simp only [InK]; omega)) ?_) | (refine Hd.yv (y_add rfl rfl) ?_)
      refine Hd.yv (y_move rfl) ?_
      refine Hd.nil ?_
      refine Hd.slots [(0, _), (8, _), (9, _)] ⟨rfl, rfl, rfl, trivial⟩ ?_
      clear hK1 hK2 hK3 hK4 hK5 hK6
      refine Hd.thenN ?_
      rw [← hsf]
      exact Hd.again (i + 1) (by first | omega | (simp only; omega) | (simp; omega)) (by repeat (first | exact trivial | refine ⟨rfl, ?_⟩)) (Ent.sep (.pure (by first | omega | (simp; done) | (simp; omega) | (dsimp only; omega)) enn))
  ·
    try simp only [decide_eq_true_eq, decide_eq_false_iff_not, Bool.and_eq_true, Bool.or_eq_true, Bool.and_eq_false_iff, Bool.or_eq_false_iff, Bool.not_eq_true', Bool.not_eq_false', Bool.not_eq_true, Bool.not_eq_false, Int.not_lt, Int.not_le, Decidable.not_not, ne_eq] at hc0
    refine Hd.exit ?_
    refine Hd.thenExit ?_
    refine Hd.thenExit ?_
    refine Hd.inBexit ?_
    clear hK1 hK2 hK3
    obtain rfl : i = 96 := by omega
    exact Hd.end0 rfl (frees t, true) rfl (fun k' h => Ent.sep (.pure rfl .same) k' (sep_app (M := [WoH wb t w n i0]) (N := J (frees t)) (Ent.sep enn k' h)))
end Wo
end Go.Proofs.Ytbfddabjbkohdaa
