/-
  Heaps: Push, Take, Pop, Move.
-/
import Derived.Test.YtdjoofidicoimaaHe5
namespace Go.Proofs.Ytdjoofidicoimaa
set_option linter.unusedSimpArgs false
set_option linter.unusedVariables false
set_option linter.unnecessarySimpa false
open Go.RX Fx
namespace Hp
set_option maxRecDepth 8000
def pushV (s : List It) (x : It) : Int := if (findI x.id s).isSome then 30 else 0
def pushS (s : List It) (x : It) : List It := if (findI x.id s).isSome then s else insI x s
set_option maxHeartbeats 2000000 in
theorem push_ct (L : List SP) (b : Nat) (s : List It) (hs : s.length < 1000000) (x : It) : Ct Try.prog 55 #[.pointer (some ⟨b, 0, none⟩), aggI x] (HpA b s :: L) (fun _ : Unit => .int .i64 (pushV s x)) (fun _ : Unit => HpA b (pushS s x) :: L) := by
  refine Ct.of (vs := [.pointer (some ⟨b, 0, none⟩), aggI x]) Try.func55 rfl rfl [(0, .pointer (some ⟨b, 0, none⟩)), (1, aggI x)] (by repeat (first | exact trivial | refine ⟨rfl, ?_⟩)) ?_
  intro E
  show Hd E 38 _ _ _ _
  refine Hd.exs .here ?_
  rintro ⟨mb, ad, cap, V, f⟩
  simp only [List.cons_append, List.nil_append]
  refine Hd.pure (fun hq => ?_)
  have hVn := hq.vlen
  have hln := hq.len
  refine Hd.exs (f := fun m : Nat => [mp mb .i64 f m]) pkk ?_
  intro m
  simp only [List.cons_append, List.nil_append]
  refine Hd.seq (fun K1 hK1 => ?_)
  refine Hd.region ?_
  refine Hd.box rfl rfl (fun b3 => ?_)
  refine Hd.yv (y_assign rfl) ?_
  refine Hd.nil ?_
  refine Hd.slots [(0, _), (3, _)] ⟨rfl, rfl, trivial⟩ ?_
  refine Hd.toK hK1 ?_
  refine Hd.seq (fun K2 hK2 => ?_)
  refine Hd.seq (fun K3 hK3 => ?_)
  refine Hd.region ?_
  refine Hd.yv (y_move rfl) ?_
  refine Hd.callE rfl fk66 (none_ct _ b mb ad s.length cap) (Ent.sep enn) ?_
  intro _
  refine Hd.nil ?_
  refine Hd.slots [(0, _), (3, _), (8, _)] ⟨rfl, rfl, rfl, trivial⟩ ?_
  refine Hd.toK hK3 ?_
  refine Hd.condF rfl ?_
  refine Hd.skip ?_
  refine Hd.toK hK2 ?_
  refine Hd.seq (fun K4 hK4 => ?_)
  refine Hd.seq (fun K5 hK5 => ?_)
  refine Hd.quiet mixed (by kernel_rfl) ?_
  refine Hq.yv (y_move rfl) ?_
  refine Hq.yv (y_nilp rfl) ?_
  first | (refine Hq.yv (y_field' (q := 1) (ft := 83) Try.underlying100 rfl sz83 rfl rfl) ?_) | (refine Hq.yv (y_fieldR (q := 1) (ft := 83) Try.underlying100 rfl sz83 rfl rfl) ?_)
  first | (refine Hq.yv (y_load1 ag83 rfl (Rd.pt1 pkk (by (first | rfl)))) ?_) | (refine Hq.yv (y_load1 ag83 rfl (Rd.seg1 pkk (by (first | rfl)))) ?_) | (refine Hq.yv (y_loadR1 ag83 rfl (by (first | exact RdS.own pkk)) (by (first | rfl))) ?_)
  first | (refine Hq.yv (y_field' (q := 0) (ft := 3) Try.underlying69 rfl sz3 rfl rfl) ?_) | (refine Hq.yv (y_fieldR (q := 0) (ft := 3) Try.underlying69 rfl sz3 rfl rfl) ?_)
  first | (refine Hq.yv (y_load1 ag3 rfl (Rd.pt1 pkk (by (first | rfl)))) ?_) | (refine Hq.yv (y_load1 ag3 rfl (Rd.seg1 pkk (by (first | rfl)))) ?_) | (refine Hq.yv (y_loadR1 ag3 rfl (by (first | exact RdS.own pkk)) (by (first | rfl))) ?_)
  refine Hq.yv (y_lookup2 mapt83 rfl rfl pkk) ?_
  refine Hq.yv (y_move rfl) ?_
  refine Hq.yv (y_extract rfl rfl) ?_
  refine Hq.yv (y_extract rfl rfl) ?_
  refine Hq.yv (y_assign rfl) ?_
  refine Hq.yv (y_assign rfl) ?_
  refine Hq.nil ?_
  refine Hd.slots [(0, _), (3, _), (6, _)] ⟨rfl, rfl, rfl, trivial⟩ ?_
  refine Hd.toK hK5 ?_
  refine Hd.seq (fun K6 hK6 => ?_)
  refine Hd.region ?_
  refine Hd.yv (y_move rfl) ?_
  refine Hd.nil ?_
  refine Hd.slots [(0, _), (3, _), (19, _)] ⟨rfl, rfl, rfl, trivial⟩ ?_
  refine Hd.toK hK6 ?_
  refine Hd.cond rfl (fun hc1 => ?_) (fun hc1 => ?_)
  ·
    try simp only [decide_eq_true_eq, decide_eq_false_iff_not, Bool.and_eq_true, Bool.or_eq_true, Bool.and_eq_false_iff, Bool.or_eq_false_iff, Bool.not_eq_true', Bool.not_eq_false', Bool.not_eq_true, Bool.not_eq_false, Int.not_lt, Int.not_le, Decidable.not_not, ne_eq] at hc1
    refine Hd.seq (fun K7 hK7 => ?_)
    refine Hd.region ?_
    refine Hd.yv (y_assign rfl) ?_
    refine Hd.nil ?_
    refine Hd.slots [(4, _)] ⟨rfl, trivial⟩ ?_
    refine Hd.toK hK7 ?_
    refine Hd.ret ?_
    refine Hd.thenRet ?_
    clear hK1 hK2 hK3 hK4 hK5 hK6 hK7
    obtain ⟨i, hi, hf, hid, hfi, hpe⟩ := hq.some_of (id := x.id) hc1
    have e1 : pushV s x = 30 := by unfold pushV; rw [hfi]; rfl
    have e2 : pushS s x = s := by unfold pushS; rw [hfi]; rfl
    rw [e1, e2]
    exact Hd.ret1 rfl () rfl (Ent.sep (.ex (mb, ad, cap, V, f) (.pure hq (.pick pkk (.pick pkk (.ex m enn))))))
  ·
    try simp only [decide_eq_true_eq, decide_eq_false_iff_not, Bool.and_eq_true, Bool.or_eq_true, Bool.and_eq_false_iff, Bool.or_eq_false_iff, Bool.not_eq_true', Bool.not_eq_false', Bool.not_eq_true, Bool.not_eq_false, Int.not_lt, Int.not_le, Decidable.not_not, ne_eq] at hc1
    obtain ⟨hfi, hre, hno, hf⟩ := hq.none_of (id := x.id) hc1
    have e1 : pushV s x = 0 := by unfold pushV; rw [hfi]; rfl
    have e2 : pushS s x = insI x s := by unfold pushS; rw [hfi]; rfl
    have hpu := hq.push (x := x) hno
    refine Hd.skip ?_
    refine Hd.toK hK4 ?_
    refine Hd.seq (fun K8 hK8 => ?_)
    refine Hd.drawsH ([HH b mb ad s.length cap, pt b3 (encI x) 69]) (fun j => !([10].contains j)) mixed ?_
    simp only [List.length, Nat.zero_add, Nat.reduceAdd]
    refine Hd.takeH 0 rfl (by kernel_rfl) (by kernel_rfl) (by kernel_rfl) (by kernel_rfl) (y_move rfl) (fun _ _ => rfl) (Ent.sep enn) ?_
    refine Hd.takeH 1 rfl (by kernel_rfl) (by kernel_rfl) (by kernel_rfl) (by kernel_rfl) (y_move rfl) (fun _ _ => rfl) (Ent.sep enn) ?_
    refine Hd.takeH 2 rfl (by kernel_rfl) (by kernel_rfl) (by kernel_rfl) (by kernel_rfl) (y_nilp rfl) (fun _ _ => rfl) (Ent.sep enn) ?_
    first | (refine Hd.takeH 3 rfl (by kernel_rfl) (by kernel_rfl) (by kernel_rfl) (by kernel_rfl) (y_field' (q := 0) (ft := 77) Try.underlying100 rfl sz77 rfl rfl) (fun _ _ => rfl) (Ent.sep enn) ?_) | (refine Hd.takeH 3 rfl (by kernel_rfl) (by kernel_rfl) (by kernel_rfl) (by kernel_rfl) (y_fieldR (q := 0) (ft := 77) Try.underlying100 rfl sz77 rfl rfl) (fun _ _ => rfl) (Ent.sep enn) ?_)
    first | (refine Hd.takeH 4 rfl (by kernel_rfl) (by kernel_rfl) (by kernel_rfl) (by kernel_rfl) (y_load1 ag77 rfl (Rd.pt1 pkk (by (first | rfl)))) (fun _ _ => rfl) (Ent.sep enn) ?_) | (refine Hd.takeH 4 rfl (by kernel_rfl) (by kernel_rfl) (by kernel_rfl) (by kernel_rfl) (y_load1 ag77 rfl (Rd.seg1 pkk (by (first | rfl)))) (fun _ _ => rfl) (Ent.sep enn) ?_) | (refine Hd.takeH 4 rfl (by kernel_rfl) (by kernel_rfl) (by kernel_rfl) (by kernel_rfl) (y_loadR1 ag77 rfl (by (first | exact RdS.own pkk)) (by (first | rfl))) (fun _ _ => rfl) (Ent.sep enn) ?_)
    first | (refine Hd.takeH 5 rfl (by kernel_rfl) (by kernel_rfl) (by kernel_rfl) (by kernel_rfl) (y_loadn (us := [_, _, _]) ag69 rfl (Rd.pt pkk (by (first | (intro j v e; rcases j with _|_|_|_|_|_|_|_|_|_|_|_|j <;> first | exact e | exact absurd e (by simp))))) (by exact sz69)) (fun _ _ => rfl) (Ent.sep enn) ?_) | (refine Hd.takeH 5 rfl (by kernel_rfl) (by kernel_rfl) (by kernel_rfl) (by kernel_rfl) (y_loadn (us := [_, _, _]) ag69 rfl (Rd.seg pkk (by (first | (intro j v e; rcases j with _|_|_|_|_|_|_|_|_|_|_|_|j <;> first | exact e | exact absurd e (by simp))))) (by exact sz69)) (fun _ _ => rfl) (Ent.sep enn) ?_) | (refine Hd.takeH 5 rfl (by kernel_rfl) (by kernel_rfl) (by kernel_rfl) (by kernel_rfl) (y_loadRn ag69 rfl (by (first | exact RdS.own pkk)) (by (first | (intro j v e; rcases j with _|_|_|_|_|_|_|_|_|_|_|_|j <;> first | exact e | exact absurd e (by simp)))) (by exact sz69) (by simp)) (fun _ _ => rfl) (Ent.sep enn) ?_)
    refine Hd.onlyH 6 rfl (by kernel_rfl) ?_
    refine Hd.bslice (vs := [(0, _)]) rfl (by first | exact bs55_26 .. | kernel_rfl) (fun b26 => ?_)
    refine Hd.nil ?_
    refine Hd.thenN ?_
    refine Hd.heldK (J := (fun j => !([10].contains j))) (i := 6) (Ent.sep enn) ?_
    refine Hd.onlyH 7 rfl (by kernel_rfl) ?_
    refine Hd.append Try.underlying77 ty69 rfl rfl rfl pkk (by first | exact RdS.rd (Rd.pt pkk (fun j v e => by simpa using e)) rfl | (first | exact RdS.own pkk)) (by first | (simp [Value.oneCell']; done) | assumption) (by first | (simp only [maxLen]; omega) | assumption) (by omega) (fun ad27 cap27 => ?_)
    refine Hd.nil ?_
    refine Hd.thenN ?_
    refine Hd.heldK (J := (fun j => !([10].contains j))) (i := 7) (Ent.sep enn) ?_
    refine Hd.onlyH 8 rfl (by kernel_rfl) ?_
    refine Hd.yv (y_nilp rfl) ?_
    refine Hd.nil ?_
    refine Hd.thenN ?_
    refine Hd.heldK (J := (fun j => !([10].contains j))) (i := 8) (Ent.sep enn) ?_
    first | (refine Hd.takeH 9 rfl (by kernel_rfl) (by kernel_rfl) (by kernel_rfl) (by kernel_rfl) (y_field' (q := 0) (ft := 77) Try.underlying100 rfl sz77 rfl rfl) (fun _ _ => rfl) (Ent.sep enn) ?_) | (refine Hd.takeH 9 rfl (by kernel_rfl) (by kernel_rfl) (by kernel_rfl) (by kernel_rfl) (y_fieldR (q := 0) (ft := 77) Try.underlying100 rfl sz77 rfl rfl) (fun _ _ => rfl) (Ent.sep enn) ?_)
    refine Hd.onlyH 10 rfl (by kernel_rfl) ?_
    first | (refine Hd.store1 sz77 rfl rfl rfl pkk (by first | decide | (simp; done) | (simp; omega)) ?_) | (refine Hd.storeG1 sz77 rfl rfl rfl pkk (by first | decide | (simp; done) | (simp; omega)) ?_) | (refine Hd.storeO1 sz77 rfl rfl rfl pkk (by first | omega | (simp; done) | (simp; omega)) ?_)
    try simp only [List.set_cons_zero, List.set_cons_succ]
    refine Hd.nil ?_
    refine Hd.thenN ?_
    refine Hd.heldN (J := (fun j => !([10].contains j))) (i := 10) rfl ?_
    refine Hd.endH (by kernel_rfl) ?_
    refine Hd.heap (HpL b mb ad27 (s.length + 1) cap27 (V ++ [x]) f L) (fun k' h => Ent.sep (.eq pkk (pt_eq (by rfl)) (.eq pkk (own_eq3 rfl rfl (by simp)) (.ex m enn))) k' h) ?_
    refine Hd.slots [(0, _)] ⟨rfl, trivial⟩ ?_
    refine Hd.toK hK8 ?_
    refine Hd.seq (fun K9 hK9 => ?_)
    refine Hd.region ?_
    refine Hd.yv (y_move rfl) ?_
    refine Hd.yv (y_move rfl) ?_
    refine Hd.yv (y_nilp rfl) ?_
    first | (refine Hd.yv (y_field' (q := 0) (ft := 77) Try.underlying100 rfl sz77 rfl rfl) ?_) | (refine Hd.yv (y_fieldR (q := 0) (ft := 77) Try.underlying100 rfl sz77 rfl rfl) ?_)
    first | (refine Hd.yv (y_load1 ag77 rfl (Rd.pt1 pkk (by (first | rfl)))) ?_) | (refine Hd.yv (y_load1 ag77 rfl (Rd.seg1 pkk (by (first | rfl)))) ?_) | (refine Hd.yv (y_loadR1 ag77 rfl (by (first | exact RdS.own pkk)) (by (first | rfl))) ?_)
    refine Hd.yv (y_len Try.underlying77 rfl) ?_
    first | (refine Hd.yv (y_to (v' := .int .i64 ((V.length : Nat) : Int)) (y_subn rfl rfl (by simp only [InK]; omega)) (by (congr 1; omega))) ?_) | (refine Hd.yv (y_to (v' := .int .i64 ((V.length : Nat) : Int)) (y_sub rfl rfl) (by (congr 1; omega))) ?_)
    refine Hd.callE rfl fk67 (up_ct L b mb ad27 (s.length + 1) cap27 (by omega) (V ++ [x]) (by simp; omega) f V.length (by omega) hpu.1 hpu.2.1 hpu.2.2.1) (Ent.sep enn) ?_
    rintro ⟨V2, p, f2⟩
    dsimp only
    refine Hd.pure (fun hu => ?_)
    obtain ⟨hl2, hp2, hH2, hP2, hpn, hM2, hI2, hC2⟩ := hu
    have hq2 := hq.pushed (x := x) hno hs (hH2.done hP2 (hC2 hpu.2.2.2)) hM2 hp2
    refine Hd.nil ?_
    refine Hd.slots [] trivial ?_
    refine Hd.toK hK9 ?_
    refine Hd.seq (fun K10 hK10 => ?_)
    refine Hd.region ?_
    refine Hd.yv (y_assign rfl) ?_
    refine Hd.nil ?_
    refine Hd.slots [(4, _)] ⟨rfl, trivial⟩ ?_
    refine Hd.toK hK10 ?_
    refine Hd.ret ?_
    clear hK1 hK2 hK3 hK4 hK5 hK6 hK8 hK9 hK10
    rw [e1, e2]
    have hl3 : (insI x s).length = s.length + 1 := by rw [(insI_perm x s).length_eq]; rfl
    exact Hd.ret1 rfl () rfl (Ent.sep (.ex (mb, ad27, cap27, V2, f2) (.pure hq2 (by dsimp only; rw [hl3]; exact enn))))
set_option maxHeartbeats 2000000 in
theorem push_no (L : List SP) (v : Value) (A : SP) (hN : NoH v A) (x : It) : Ct Try.prog 55 #[v, aggI x] (A :: L) (fun _ : Unit => .int .i64 1) (fun _ : Unit => A :: L) := by
  refine Ct.of (vs := [v, aggI x]) Try.func55 rfl rfl [(0, v), (1, aggI x)] (by repeat (first | exact trivial | refine ⟨rfl, ?_⟩)) ?_
  intro E
  show Hd E 38 _ _ _ _
  refine Hd.seq (fun K1 hK1 => ?_)
  refine Hd.region ?_
  refine Hd.box rfl rfl (fun b3 => ?_)
  refine Hd.yv (y_assign rfl) ?_
  refine Hd.nil ?_
  refine Hd.slots [(0, _), (3, _)] ⟨rfl, rfl, trivial⟩ ?_
  refine Hd.toK hK1 ?_
  refine Hd.seq (fun K2 hK2 => ?_)
  refine Hd.seq (fun K3 hK3 => ?_)
  refine Hd.region ?_
  refine Hd.yv (y_move rfl) ?_
  refine Hd.callE rfl fk66 (hN _) (Ent.sep enn) ?_
  intro _
  refine Hd.nil ?_
  refine Hd.slots [(0, _), (3, _), (8, _)] ⟨rfl, rfl, rfl, trivial⟩ ?_
  refine Hd.toK hK3 ?_
  refine Hd.condT rfl ?_
  refine Hd.seq (fun K4 hK4 => ?_)
  refine Hd.region ?_
  refine Hd.yv (y_assign rfl) ?_
  refine Hd.nil ?_
  refine Hd.slots [(4, _)] ⟨rfl, trivial⟩ ?_
  refine Hd.toK hK4 ?_
  refine Hd.ret ?_
  refine Hd.thenRet ?_
  clear hK1 hK2 hK3 hK4
  exact Hd.ret1 rfl () (by first | rfl | (simp only [*]; done) | (simp [*]; done)) (Ent.sep enn)
def takeS (s : List It) (id : Int) : List It := remI id s
set_option maxHeartbeats 2000000 in
theorem take_ct (L : List SP) (b : Nat) (s : List It) (id : Int) : Ct Try.prog 63 #[.pointer (some ⟨b, 0, none⟩), .int .i64 id] (HpA b s :: L) (fun _ : Unit => .tuple #[aggI (findV (findI id s)).1, .bool (findV (findI id s)).2]) (fun _ : Unit => HpA b (remI id s) :: L) := by
  refine Ct.of (vs := [.pointer (some ⟨b, 0, none⟩), .int .i64 id]) Try.func63 rfl rfl [(0, .pointer (some ⟨b, 0, none⟩)), (1, .int .i64 id)] (by repeat (first | exact trivial | refine ⟨rfl, ?_⟩)) ?_
  intro E
  show Hd E 66 _ _ _ _
  refine Hd.seq (fun K1 hK1 => ?_)
  refine Hd.region ?_
  refine Hd.alloc zr69 (fun b4 => ?_)
  refine Hd.yv (y_assign rfl) ?_
  refine Hd.nil ?_
  refine Hd.slots [(0, _), (1, _), (4, _)] ⟨rfl, rfl, rfl, trivial⟩ ?_
  refine Hd.toK hK1 ?_
  refine Hd.seq (fun K2 hK2 => ?_)
  refine Hd.region ?_
  refine Hd.yv (y_move rfl) ?_
  refine Hd.yv (y_move rfl) ?_
  refine Hd.callE rfl fk62 (find_ct _ b s id) (Ent.sep enn) ?_
  intro _
  refine Hd.yv (y_move rfl) ?_
  refine Hd.yv (y_extract rfl rfl) ?_
  refine Hd.yv (y_extract rfl rfl) ?_
  refine Hd.alloc zr69 (fun b6 => ?_)
  refine Hd.storeA (us := encI (findV (findI id s)).1) sz69 rfl rfl rfl (encI_one _) pkk (by exact rfl) ?_
  refine Hd.yv (y_assign rfl) ?_
  refine Hd.nil ?_
  refine Hd.slots [(0, _), (1, _), (4, _), (6, _), (7, _)] ⟨rfl, rfl, rfl, rfl, rfl, trivial⟩ ?_
  refine Hd.toK hK2 ?_
  refine Hd.seq (fun K3 hK3 => ?_)
  refine Hd.seq (fun K4 hK4 => ?_)
  refine Hd.region ?_
  refine Hd.yv (y_move rfl) ?_
  refine Hd.yv (y_not rfl) ?_
  refine Hd.nil ?_
  refine Hd.slots [(0, _), (1, _), (4, _), (6, _), (18, _)] ⟨rfl, rfl, rfl, rfl, rfl, trivial⟩ ?_
  refine Hd.toK hK4 ?_
  refine Hd.cond rfl (fun hc0 => ?_) (fun hc0 => ?_)
  ·
    try simp only [decide_eq_true_eq, decide_eq_false_iff_not, Bool.and_eq_true, Bool.or_eq_true, Bool.and_eq_false_iff, Bool.or_eq_false_iff, Bool.not_eq_true', Bool.not_eq_false', Bool.not_eq_true, Bool.not_eq_false, Int.not_lt, Int.not_le, Decidable.not_not, ne_eq] at hc0
    have hfi : findI id s = none := by
      cases h : findI id s with
      | none => rfl
      | some x => rw [h] at hc0; simp [findV] at hc0
    have hx1 : (findV (findI id s)).2 = false := by rw [hfi]; rfl
    have hre : remI id s = s := by
      refine (findI_none fun x hx e => ?_).2
      unfold findI at hfi
      have := List.find?_eq_none.1 hfi x hx
      simp [e] at this
    refine Hd.seq (fun K5 hK5 => ?_)
    refine Hd.region ?_
    refine Hd.yv (y_loadn (us := encI (findV (findI id s)).1) ag69 rfl (Rd.pt pkk (fun j v e => by rw [Nat.zero_add]; exact e)) (by exact sz69)) ?_
    refine Hd.storeA (us := encI (findV (findI id s)).1) sz69 rfl rfl rfl (encI_one _) pkk (by exact rfl) ?_
    refine Hd.yv (y_assign rfl) ?_
    refine Hd.nil ?_
    refine Hd.slots [(4, _), (5, _)] ⟨rfl, rfl, trivial⟩ ?_
    refine Hd.toK hK5 ?_
    refine Hd.ret ?_
    refine Hd.thenRet ?_
    clear hK1 hK2 hK3 hK4 hK5
    rw [hre]
    exact Hd.retCT rfl () ag69 rfl rfl (Rd.pt (us := encI (findV (findI id s)).1) pkk (fun j v e => by rw [Nat.zero_add]; exact e)) (by exact sz69) (by rw [hx1]) (Ent.sep enn)
  ·
    try simp only [decide_eq_true_eq, decide_eq_false_iff_not, Bool.and_eq_true, Bool.or_eq_true, Bool.and_eq_false_iff, Bool.or_eq_false_iff, Bool.not_eq_true', Bool.not_eq_false', Bool.not_eq_true, Bool.not_eq_false, Int.not_lt, Int.not_le, Decidable.not_not, ne_eq] at hc0
    obtain ⟨x, hfx⟩ : ∃ x, findI id s = some x := by
      cases h : findI id s with
      | none => rw [h] at hc0; simp [findV] at hc0
      | some x => exact ⟨x, rfl⟩
    have hx0 : (findV (findI id s)).1 = x := by rw [hfx]; rfl
    have hx1 : (findV (findI id s)).2 = true := by rw [hfx]; rfl
    refine Hd.exs (f := fun q : Nat × Option Addr × Nat × List It × MF => pu (HpOk q.2.2.2.1 q.2.2.2.2 s) :: HpL b q.1 q.2.1 s.length q.2.2.1 q.2.2.2.1 q.2.2.2.2 []) (.there .here) ?_
    rintro ⟨mb, ad, cap, V, f⟩
    simp only [List.cons_append, List.nil_append]
    refine Hd.pure (fun hq => ?_)
    have hVn := hq.vlen
    have hln := hq.len
    refine Hd.exs (f := fun m : Nat => [mp mb .i64 f m]) pkk ?_
    intro m
    simp only [List.cons_append, List.nil_append]
    obtain ⟨i, hi, hf, hid, hfi, hpe⟩ := hq.some_of (id := id) (by
      rcases hq.cases id with ⟨i, _, h1, _⟩ | ⟨_, h1, _⟩
      · rw [h1]; rfl
      · rw [h1] at hfx; cases hfx)
    have hxg : g V i = x := Option.some.inj (hfi.symm.trans hfx)
    refine Hd.ownCap (e := 69) (ad := ad) (m := s.length) (cap := cap) pkk (fun hcap => ?_)
    refine Hd.skip ?_
    refine Hd.toK hK3 ?_
    refine Hd.seq (fun K6 hK6 => ?_)
    refine Hd.quiet mixed (by kernel_rfl) ?_
    refine Hq.yv (y_move rfl) ?_
    refine Hq.yv (y_nilp rfl) ?_
    first | (refine Hq.yv (y_field' (q := 1) (ft := 83) Try.underlying100 rfl sz83 rfl rfl) ?_) | (refine Hq.yv (y_fieldR (q := 1) (ft := 83) Try.underlying100 rfl sz83 rfl rfl) ?_)
    first | (refine Hq.yv (y_load1 ag83 rfl (Rd.pt1 pkk (by (first | rfl)))) ?_) | (refine Hq.yv (y_load1 ag83 rfl (Rd.seg1 pkk (by (first | rfl)))) ?_) | (refine Hq.yv (y_loadR1 ag83 rfl (by (first | exact RdS.own pkk)) (by (first | rfl))) ?_)
    refine Hq.yv (y_move rfl) ?_
    refine Hq.yv (y_lookup mapt83 rfl rfl pkk) ?_
    refine Hq.yv (y_move rfl) ?_
    refine Hq.yv (y_nilp rfl) ?_
    first | (refine Hq.yv (y_field' (q := 0) (ft := 77) Try.underlying100 rfl sz77 rfl rfl) ?_) | (refine Hq.yv (y_fieldR (q := 0) (ft := 77) Try.underlying100 rfl sz77 rfl rfl) ?_)
    first | (refine Hq.yv (y_load1 ag77 rfl (Rd.pt1 pkk (by (first | rfl)))) ?_) | (refine Hq.yv (y_load1 ag77 rfl (Rd.seg1 pkk (by (first | rfl)))) ?_) | (refine Hq.yv (y_loadR1 ag77 rfl (by (first | exact RdS.own pkk)) (by (first | rfl))) ?_)
    refine Hq.yv (y_len Try.underlying77 rfl) ?_
    first | (refine Hq.yv (y_subn rfl rfl (by simp only [InK]; omega)) ?_) | (refine Hq.yv (y_sub rfl rfl) ?_)
    refine Hq.yv (y_assign rfl) ?_
    refine Hq.yv (y_assign rfl) ?_
    refine Hq.nil ?_
    rw [hf]
    refine Hd.slots [(0, _), (1, _), (4, _), (6, _), (8, .int .i64 (i : Int)), (9, _)] ⟨rfl, rfl, rfl, rfl, rfl, rfl, trivial⟩ ?_
    refine Hd.name (b := ((s.length - 1 : Nat) : Int)) 9 rfl (by omega) ?_
    refine Hd.slots [(0, _), (1, _), (4, _), (6, _), (8, _), (9, _)] ⟨rfl, rfl, rfl, rfl, rfl, rfl, trivial⟩ ?_
    refine Hd.toK hK6 ?_
    refine Hd.seq (fun K7 hK7 => ?_)
    refine Hd.region ?_
    refine Hd.yv (y_move rfl) ?_
    refine Hd.yv (y_nilp rfl) ?_
    first | (refine Hd.yv (y_field' (q := 0) (ft := 77) Try.underlying100 rfl sz77 rfl rfl) ?_) | (refine Hd.yv (y_fieldR (q := 0) (ft := 77) Try.underlying100 rfl sz77 rfl rfl) ?_)
    first | (refine Hd.yv (y_load1 ag77 rfl (Rd.pt1 pkk (by (first | rfl)))) ?_) | (refine Hd.yv (y_load1 ag77 rfl (Rd.seg1 pkk (by (first | rfl)))) ?_) | (refine Hd.yv (y_loadR1 ag77 rfl (by (first | exact RdS.own pkk)) (by (first | rfl))) ?_)
    refine Hd.yv (y_move rfl) ?_
    first | (refine Hd.yv (y_idxS Try.underlying77 sz69 rfl rfl (by first | omega | decide)) ?_) | (refine Hd.yv (y_idxR Try.underlying77 sz69 rfl rfl (by first | omega | decide) (by (first | exact RdS.own pkk))) ?_)
    refine Hd.yv (y_loadRn (vs := [_, _, _]) ag69 rfl (RdS.own pkk) (flat_cells encI 3 (fun _ => rfl) (show V[s.length - 1]? = some (g V (s.length - 1)) from g_at (by omega))) (by exact sz69) (by simp)) ?_
    refine Hd.alloc zr69 (fun b10 => ?_)
    refine Hd.storeA (us := encI (g V (s.length - 1))) sz69 rfl rfl rfl (encI_one _) pkk (by exact rfl) ?_
    refine Hd.nil ?_
    refine Hd.slots [(0, _), (1, _), (4, _), (6, _), (8, _), (9, _), (10, _)] ⟨rfl, rfl, rfl, rfl, rfl, rfl, rfl, trivial⟩ ?_
    refine Hd.toK hK7 ?_
    refine Hd.seq (fun K8 hK8 => ?_)
    refine Hd.region ?_
    refine Hd.yv (y_move rfl) ?_
    refine Hd.yv (y_move rfl) ?_
    refine Hd.yv (y_nilp rfl) ?_
    first | (refine Hd.yv (y_field' (q := 0) (ft := 77) Try.underlying100 rfl sz77 rfl rfl) ?_) | (refine Hd.yv (y_fieldR (q := 0) (ft := 77) Try.underlying100 rfl sz77 rfl rfl) ?_)
    first | (refine Hd.yv (y_load1 ag77 rfl (Rd.pt1 pkk (by (first | rfl)))) ?_) | (refine Hd.yv (y_load1 ag77 rfl (Rd.seg1 pkk (by (first | rfl)))) ?_) | (refine Hd.yv (y_loadR1 ag77 rfl (by (first | exact RdS.own pkk)) (by (first | rfl))) ?_)
    refine Hd.yv (y_move rfl) ?_
    first | (refine Hd.yv (y_slo_xoxN Try.underlying77 sz69 rfl rfl (by first | omega | (simp; done) | decide)) ?_) | (refine Hd.yv (y_slo_xox Try.underlying77 sz69 rfl rfl (by first | omega | (simp; done) | decide) (by first | omega | (simp; done) | decide)) ?_)
    refine Hd.yv (y_nilp rfl) ?_
    first | (refine Hd.yv (y_field' (q := 0) (ft := 77) Try.underlying100 rfl sz77 rfl rfl) ?_) | (refine Hd.yv (y_fieldR (q := 0) (ft := 77) Try.underlying100 rfl sz77 rfl rfl) ?_)
    first | (refine Hd.store1 sz77 rfl rfl rfl pkk (by first | decide | (simp; done) | (simp; omega)) ?_) | (refine Hd.storeG1 sz77 rfl rfl rfl pkk (by first | decide | (simp; done) | (simp; omega)) ?_) | (refine Hd.storeO1 sz77 rfl rfl rfl pkk (by first | omega | (simp; done) | (simp; omega)) ?_)
    try simp only [List.set_cons_zero, List.set_cons_succ]
    refine Hd.nil ?_
    refine Hd.slots [(0, _), (1, _), (4, _), (6, _), (8, _), (9, _), (10, _)] ⟨rfl, rfl, rfl, rfl, rfl, rfl, rfl, trivial⟩ ?_
    refine Hd.toK hK8 ?_
    refine Hd.seq (fun K9 hK9 => ?_)
    have e4 : V = V.take (s.length - 1) ++ V.drop (s.length - 1) := (List.take_append_drop _ _).symm
    have lT : (V.take (s.length - 1)).length = s.length - 1 := by rw [List.length_take]; omega
    refine Hd.ownTake (e := 69) (ad := ad) (m := s.length) (cap := cap) pkk (s.length - 1) ((V.take (s.length - 1)).flatMap encI) ((V.drop (s.length - 1)).flatMap encI) (by omega) (by rw [← List.flatMap_append, List.take_append_drop]) (by rw [flat_len, lT]) ?_
    refine Hd.region ?_
    refine Hd.yv (y_move rfl) ?_
    refine Hd.yv (y_nilp rfl) ?_
    first | (refine Hd.yv (y_field' (q := 1) (ft := 83) Try.underlying100 rfl sz83 rfl rfl) ?_) | (refine Hd.yv (y_fieldR (q := 1) (ft := 83) Try.underlying100 rfl sz83 rfl rfl) ?_)
    first | (refine Hd.yv (y_load1 ag83 rfl (Rd.pt1 pkk (by (first | rfl)))) ?_) | (refine Hd.yv (y_load1 ag83 rfl (Rd.seg1 pkk (by (first | rfl)))) ?_) | (refine Hd.yv (y_loadR1 ag83 rfl (by (first | exact RdS.own pkk)) (by (first | rfl))) ?_)
    refine Hd.yv (y_move rfl) ?_
    refine Hd.mapDelete0 mapt83 rfl rfl pkk ?_
    refine Hd.nil ?_
    refine Hd.slots [(0, _), (4, _), (6, _), (8, _), (9, _), (10, _)] ⟨rfl, rfl, rfl, rfl, rfl, rfl, trivial⟩ ?_
    refine Hd.toK hK9 ?_
    refine Hd.seq (fun K10 hK10 => ?_)
    refine Hd.seq (fun K11 hK11 => ?_)
    refine Hd.heap (HpL b mb ad (s.length - 1) cap (V.take (s.length - 1)) (delF f id) (pt b4 [.int .i64 0, .int .u64 0, .int .u64 0] 69 :: pt b6 (encI (findV (findI id s)).1) 69 :: pt b10 (encI (g V (s.length - 1))) 69 :: L)) (fun k' h => Ent.sep (.eq pkk (pt_eq (by rfl)) (.pick pkk (.ex _ (.pick pkk enn)))) k' h) ?_
    refine Hd.region ?_
    refine Hd.yv (y_move rfl) ?_
    refine Hd.yv (y_move rfl) ?_
    refine Hd.yv (y_lss rfl rfl) ?_
    refine Hd.nil ?_
    refine Hd.slots [(0, _), (4, _), (6, _), (8, _), (10, _), (55, _)] ⟨rfl, rfl, rfl, rfl, rfl, rfl, trivial⟩ ?_
    refine Hd.toK hK11 ?_
    refine Hd.cond rfl (fun hc1 => ?_) (fun hc1 => ?_)
    ·
      try simp only [decide_eq_true_eq, decide_eq_false_iff_not, Bool.and_eq_true, Bool.or_eq_true, Bool.and_eq_false_iff, Bool.or_eq_false_iff, Bool.not_eq_true', Bool.not_eq_false', Bool.not_eq_true, Bool.not_eq_false, Int.not_lt, Int.not_le, Decidable.not_not, ne_eq] at hc1
      have hil : i < V.length - 1 := by omega
      have hce : (V.take (s.length - 1)).set i (g V (s.length - 1)) = cutL V i := by unfold cutL; rw [if_pos hil, hVn]
      have hca := hq.cutA hil
      rw [hid, hVn] at hca
      refine Hd.seq (fun K12 hK12 => ?_)
      refine Hd.region ?_
      refine Hd.yv (y_move rfl) ?_
      refine Hd.yv (y_move rfl) ?_
      refine Hd.yv (y_loadn (us := encI (g V (s.length - 1))) ag69 rfl (Rd.pt pkk (fun j v e => by rw [Nat.zero_add]; exact e)) (by exact sz69)) ?_
      refine Hd.callE rfl fk76 (put_ct _ b mb ad (s.length - 1) cap (V.take (s.length - 1)) lT (delF f id) i (by omega) (g V (s.length - 1))) (Ent.sep enn) ?_
      intro _
      rw [hce]
      refine Hd.nil ?_
      refine Hd.slots [(0, _), (4, _), (6, _), (8, _)] ⟨rfl, rfl, rfl, rfl, trivial⟩ ?_
      refine Hd.toK hK12 ?_
      refine Hd.region ?_
      refine Hd.yv (y_move rfl) ?_
      refine Hd.yv (y_move rfl) ?_
      refine Hd.yv (y_move rfl) ?_
      refine Hd.callE rfl fk67 (up_ct _ b mb ad (s.length - 1) cap (by omega) (cutL V i) (by rw [cutL_len]; omega) _ i (by omega) hca.1 (hca.2.1.hole i) hca.2.2) (Ent.sep enn) ?_
      rintro ⟨V2, p, f2⟩
      dsimp only
      refine Hd.pure (fun hu => ?_)
      obtain ⟨hl2, hp2, hH2, hP2, hpn, hM2, hI2, _⟩ := hu
      refine Hd.callE rfl fk77 (down_ct _ b mb ad (s.length - 1) cap (by omega) V2 hl2 f2 p hpn hH2 hP2 (hM2.hole p) hI2) (Ent.sep enn) ?_
      rintro ⟨V3, f3⟩
      dsimp only
      refine Hd.pure (fun hu3 => ?_)
      obtain ⟨hl3, hp3, hH3, hM3, hI3⟩ := hu3
      have hq3 := hq.taken hi hpe hH3 hM3 (hp3.trans hp2)
      have hls : (remI id s).length = s.length - 1 := by have := hpe.length_eq; simp at this; omega
      refine Hd.nil ?_
      refine Hd.slots [(4, _), (6, _)] ⟨rfl, rfl, trivial⟩ ?_
      refine Hd.toK hK10 ?_
      refine Hd.seq (fun K13 hK13 => ?_)
      refine Hd.region ?_
      refine Hd.yv (y_loadn (us := encI (findV (findI id s)).1) ag69 rfl (Rd.pt pkk (fun j v e => by rw [Nat.zero_add]; exact e)) (by exact sz69)) ?_
      refine Hd.storeA (us := encI (findV (findI id s)).1) sz69 rfl rfl rfl (encI_one _) pkk (by exact rfl) ?_
      refine Hd.yv (y_assign rfl) ?_
      refine Hd.nil ?_
      refine Hd.slots [(4, _), (5, _)] ⟨rfl, rfl, trivial⟩ ?_
      refine Hd.toK hK13 ?_
      refine Hd.ret ?_
      clear hK1 hK2 hK3 hK4 hK6 hK7 hK8 hK9 hK10 hK11 hK12 hK13
      exact Hd.retCT rfl () ag69 rfl rfl (Rd.pt (us := encI (findV (findI id s)).1) pkk (fun j v e => by rw [Nat.zero_add]; exact e)) (by exact sz69) (by rw [hx1]) (Ent.sep (.ex (mb, ad, cap, V3, f3) (.pure hq3 (by dsimp only; rw [hls]; exact enn))))
    ·
      try simp only [decide_eq_true_eq, decide_eq_false_iff_not, Bool.and_eq_true, Bool.or_eq_true, Bool.and_eq_false_iff, Bool.or_eq_false_iff, Bool.not_eq_true', Bool.not_eq_false', Bool.not_eq_true, Bool.not_eq_false, Int.not_lt, Int.not_le, Decidable.not_not, ne_eq] at hc1
      have hil : i = V.length - 1 := by omega
      have hce : V.take (s.length - 1) = cutL V i := by unfold cutL; rw [if_neg (by omega), hVn]
      have hca := hq.cutB hil (by omega)
      rw [hid] at hca
      have hq3 := hq.taken hi hpe hca.1 hca.2 (.refl _)
      have hls : (remI id s).length = s.length - 1 := by have := hpe.length_eq; simp at this; omega
      refine Hd.skip ?_
      refine Hd.toK hK10 ?_
      refine Hd.seq (fun K14 hK14 => ?_)
      refine Hd.region ?_
      refine Hd.yv (y_loadn (us := encI (findV (findI id s)).1) ag69 rfl (Rd.pt pkk (fun j v e => by rw [Nat.zero_add]; exact e)) (by exact sz69)) ?_
      refine Hd.storeA (us := encI (findV (findI id s)).1) sz69 rfl rfl rfl (encI_one _) pkk (by exact rfl) ?_
      refine Hd.yv (y_assign rfl) ?_
      refine Hd.nil ?_
      refine Hd.slots [(4, _), (5, _)] ⟨rfl, rfl, trivial⟩ ?_
      refine Hd.toK hK14 ?_
      refine Hd.ret ?_
      clear hK1 hK2 hK3 hK4 hK6 hK7 hK8 hK9 hK10 hK11 hK14
      exact Hd.retCT rfl () ag69 rfl rfl (Rd.pt (us := encI (findV (findI id s)).1) pkk (fun j v e => by rw [Nat.zero_add]; exact e)) (by exact sz69) (by rw [hx1]) (Ent.sep (.ex (mb, ad, cap, cutL V i, delF f id) (.pure hq3 (by dsimp only; rw [hls, ← hce]; exact enn))))
set_option maxHeartbeats 2000000 in
theorem take_no (L : List SP) (v : Value) (A : SP) (hN : NoH v A) (id : Int) : Ct Try.prog 63 #[v, .int .i64 id] (A :: L) (fun _ : Unit => .tuple #[aggI z0, .bool false]) (fun _ : Unit => A :: L) := by
  refine Ct.of (vs := [v, .int .i64 id]) Try.func63 rfl rfl [(0, v), (1, .int .i64 id)] (by repeat (first | exact trivial | refine ⟨rfl, ?_⟩)) ?_
  intro E
  show Hd E 66 _ _ _ _
  refine Hd.seq (fun K1 hK1 => ?_)
  refine Hd.region ?_
  refine Hd.alloc zr69 (fun b4 => ?_)
  refine Hd.yv (y_assign rfl) ?_
  refine Hd.nil ?_
  refine Hd.slots [(0, _), (1, _), (4, _)] ⟨rfl, rfl, rfl, trivial⟩ ?_
  refine Hd.toK hK1 ?_
  refine Hd.seq (fun K2 hK2 => ?_)
  refine Hd.region ?_
  refine Hd.yv (y_move rfl) ?_
  refine Hd.yv (y_move rfl) ?_
  refine Hd.callE rfl fk62 (find_no _ v A hN id) (Ent.sep enn) ?_
  intro _
  refine Hd.yv (y_move rfl) ?_
  refine Hd.yv (y_extract rfl rfl) ?_
  refine Hd.yv (y_extract rfl rfl) ?_
  refine Hd.alloc zr69 (fun b6 => ?_)
  refine Hd.storeA (us := encI z0) sz69 rfl rfl rfl (encI_one _) pkk (by exact rfl) ?_
  refine Hd.yv (y_assign rfl) ?_
  refine Hd.nil ?_
  refine Hd.slots [(0, _), (1, _), (4, _), (6, _), (7, _)] ⟨rfl, rfl, rfl, rfl, rfl, trivial⟩ ?_
  refine Hd.toK hK2 ?_
  refine Hd.seq (fun K3 hK3 => ?_)
  refine Hd.seq (fun K4 hK4 => ?_)
  refine Hd.region ?_
  refine Hd.yv (y_move rfl) ?_
  refine Hd.yv (y_not rfl) ?_
  refine Hd.nil ?_
  refine Hd.slots [(0, _), (1, _), (4, _), (6, _), (18, _)] ⟨rfl, rfl, rfl, rfl, rfl, trivial⟩ ?_
  refine Hd.toK hK4 ?_
  refine Hd.condT rfl ?_
  refine Hd.seq (fun K5 hK5 => ?_)
  refine Hd.region ?_
  refine Hd.yv (y_loadn (us := encI z0) ag69 rfl (Rd.pt pkk (fun j v e => by rw [Nat.zero_add]; exact e)) (by exact sz69)) ?_
  refine Hd.storeA (us := encI z0) sz69 rfl rfl rfl (encI_one _) pkk (by exact rfl) ?_
  refine Hd.yv (y_assign rfl) ?_
  refine Hd.nil ?_
  refine Hd.slots [(4, _), (5, _)] ⟨rfl, rfl, trivial⟩ ?_
  refine Hd.toK hK5 ?_
  refine Hd.ret ?_
  refine Hd.thenRet ?_
  clear hK1 hK2 hK3 hK4 hK5
  exact Hd.retCT rfl () ag69 rfl rfl (Rd.pt (us := encI z0) pkk (fun j v e => by rw [Nat.zero_add]; exact e)) (by exact sz69) rfl (Ent.sep enn)


def moveV (s : List It) (id : Int) : Int := if (findI id s).isSome then 0 else 30
def moveS (s : List It) (x : It) : List It := if (findI x.id s).isSome then insI x (remI x.id s) else s


end Hp
end Go.Proofs.Ytdjoofidicoimaa
