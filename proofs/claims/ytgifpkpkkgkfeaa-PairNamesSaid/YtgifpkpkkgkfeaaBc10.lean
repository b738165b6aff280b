/-
  The chapter's first examples; bytes in pieces; whether a chain is whole.
-/
import Derived.Test.YtgifpkpkkgkfeaaBc9
namespace Go.Proofs.Ytgifpkpkkgkfeaa
set_option linter.unusedSimpArgs false
set_option linter.unusedVariables false
set_option linter.unnecessarySimpa false
open Go.RX Fx
namespace Bc
theorem mayE_ok {a m : Nat} (h : m ≤ 1048576 - a) : mayE a m = 0 := mayE_zero.2 h
theorem mvE_ok {l1 l2 : Nat} {n : Int} (h0 : 0 ≤ n) (h : min n.toNat l1 ≤ 1048576 - l2) : mvE l1 l2 n = 0 := by unfold mvE; rw [if_neg (by omega)]; exact mayE_ok h
theorem mvK_ok {l1 l2 : Nat} {n : Int} (h0 : 0 ≤ n) (h : min n.toNat l1 ≤ 1048576 - l2) : mvK l1 l2 n = min n.toNat l1 := by unfold mvK; rw [if_pos (mvE_ok h0 h)]
section
variable {E : World} {n : Nat} {ds : List Deferred} {st : List (Nat × Value)} {L L' L2 : List SP} {K : Act → World → Prop}
abbrev KdC (b : Nat) : SP := kd b 2 27
theorem mkCh_sep {b : Nat} (p : Pick L (pt b [.slice none 0 0, .int .i64 0] 27) L') (k : PH) (s : sep L k) : sep (Ch b 0 [] :: KdC b :: L') k := by
  have s1 := pt_open (p.sep s)
  exact Ent.sep (.ex (none, 0) (.pick .here (.ownNil (.pick .here .same)))) k (rows_nil s1 |> fun h => Ent.sep (.pick (.there .here) (.pick .here .same)) k h)
theorem Hd.mkCh {b : Nat} (p : Pick L (pt b [.slice none 0 0, .int .i64 0] 27) L') (h : Hd E n ds st (Ch b 0 [] :: KdC b :: L') K) : Hd E n ds st L K := Hd.heap _ (fun k s => mkCh_sep p k s) h
end
theorem good_nil : Good [] := ⟨fun r hr => (by cases hr), by simp [flat]⟩
def fndB (all w : List UInt8) (f : Int) : Option Nat → Bool
  | some a => decide (0 ≤ f) && decide (f ≤ (a : Int)) && decide (a + w.length ≤ all.length) && decide (Mt all w a) && (List.range a).all fun j => !(decide (f ≤ (j : Int)) && decide (Mt all w j))
  | none => decide (f < 0) || (List.range (all.length + 1)).all fun j => !(decide (f ≤ (j : Int)) && decide (j + w.length ≤ all.length) && decide (Mt all w j))
theorem fnd_of {all w : List UInt8} {f : Int} : ∀ {r : Option Nat}, fndB all w f r = true → FndS all w f r
  | some a, h => by
    simp only [fndB, Bool.and_eq_true, decide_eq_true_eq] at h
    refine ⟨h.1.1.1.1, h.1.1.1.2, h.1.1.2, h.1.2, fun j h1 h2 h3 => ?_⟩
    have := List.all_eq_true.1 h.2 j (List.mem_range.2 h2)
    simp [h1, h3] at this
  | none, h => by
    simp only [fndB, Bool.or_eq_true, decide_eq_true_eq] at h
    rcases h with h | h
    · exact .inl h
    · refine .inr fun j h1 h2 h3 => ?_
      have := List.all_eq_true.1 h j (List.mem_range.2 (by omega))
      simp [h1, h2, h3] at this
set_option maxHeartbeats 2000000 in
theorem some_ct (L : List SP) : Ct Try.prog 28 #[] (L) (fun q_ : Nat × List Row => .pointer (some ⟨q_.1, 0, none⟩)) (fun q_ : Nat × List Row => pu (Good q_.2 ∧ flat q_.2 = [120, 97, 98, 99, 100]) :: Ch q_.1 0 q_.2 :: KdC q_.1 :: L) := by
  refine Ct.of (vs := []) Try.func28 rfl rfl [] (by repeat (first | exact trivial | refine ⟨rfl, ?_⟩)) ?_
  intro E
  show Hd E 17 _ _ _ _
  refine Hd.seq (fun K1 hK1 => ?_)
  refine Hd.region ?_
  refine Hd.yv (y_assign rfl) ?_
  refine Hd.nil ?_
  refine Hd.slots [] trivial ?_
  refine Hd.toK hK1 ?_
  refine Hd.seq (fun K2 hK2 => ?_)
  refine Hd.region ?_
  refine Hd.yv (y_build (vs := []) rfl (by first | exact bd28_2 .. | kernel_rfl)) ?_
  refine Hd.box rfl rfl (fun b3 => ?_)
  refine Hd.mkCh pkk ?_
  refine Hd.yv (y_assign rfl) ?_
  refine Hd.nil ?_
  refine Hd.slots [(1, _)] ⟨rfl, trivial⟩ ?_
  refine Hd.toK hK2 ?_
  refine Hd.seq (fun K3 hK3 => ?_)
  refine Hd.region ?_
  refine Hd.yv (y_move rfl) ?_
  refine Hd.bslice (vs := [(0, _), (1, _)]) rfl (by first | exact bs28_5 .. | kernel_rfl) (fun b5 => ?_)
  refine Hd.convSS (e := 5) (by kernel_rfl) rfl pkk rfl (by first | decide | (simp [maxLen])) ?_
  refine Hd.callE rfl fk19 (add_ct (own 5 1 (some ⟨b5, 0, none⟩) 2 2 [.int .u8 97, .int .u8 98] :: KdC b3 :: L) b3 0 [] good_nil (some ⟨b5, 0, none⟩) 2 2 [97, 98] (by exact RdS.own (us := [.int .u8 97, .int .u8 98]) .here) (by omega) (by omega)) (Ent.sep enn) ?_
  rintro rs1
  refine Hd.pure (fun h1 => ?_)
  have e1 : flat rs1 = [97, 98] := by have := h1.2; simpa [flat] using this
  refine Hd.nil ?_
  refine Hd.slots [(1, _)] ⟨rfl, trivial⟩ ?_
  refine Hd.toK hK3 ?_
  refine Hd.seq (fun K4 hK4 => ?_)
  refine Hd.region ?_
  refine Hd.yv (y_move rfl) ?_
  refine Hd.bslice (vs := [(0, _), (1, _)]) rfl (by first | exact bs28_9 .. | kernel_rfl) (fun b9 => ?_)
  refine Hd.convSS (e := 5) (by kernel_rfl) rfl pkk rfl (by first | decide | (simp [maxLen])) ?_
  refine Hd.callE rfl fk19 (add_ct (own 5 1 (some ⟨b9, 0, none⟩) 2 2 [.int .u8 99, .int .u8 100] :: KdC b3 :: L) b3 0 rs1 h1.1 (some ⟨b9, 0, none⟩) 2 2 [99, 100] (by exact RdS.own (us := [.int .u8 99, .int .u8 100]) .here) (by omega) (by omega)) (Ent.sep enn) ?_
  rintro rs2
  refine Hd.pure (fun h2 => ?_)
  have e2 : flat rs2 = [97, 98, 99, 100] := by have := h2.2; rw [e1] at this; simpa using this
  refine Hd.nil ?_
  refine Hd.slots [(1, _)] ⟨rfl, trivial⟩ ?_
  refine Hd.toK hK4 ?_
  refine Hd.seq (fun K5 hK5 => ?_)
  refine Hd.region ?_
  refine Hd.yv (y_move rfl) ?_
  refine Hd.bslice (vs := [(0, _)]) rfl (by first | exact bs28_13 .. | kernel_rfl) (fun b13 => ?_)
  refine Hd.convSS (e := 5) (by kernel_rfl) rfl pkk rfl (by first | decide | (simp [maxLen])) ?_
  refine Hd.callE rfl fk16 (ahead_ct (own 5 1 (some ⟨b13, 0, none⟩) 1 1 [.int .u8 120] :: KdC b3 :: L) b3 0 rs2 h2.1 (some ⟨b13, 0, none⟩) 1 1 [120] (by exact RdS.own (us := [.int .u8 120]) .here) (by omega) (by omega)) (Ent.sep enn) ?_
  rintro rs3
  refine Hd.pure (fun h3 => ?_)
  have e3 : flat rs3 = [120, 97, 98, 99, 100] := by have := h3.2; rw [e2] at this; simpa using this
  refine Hd.nil ?_
  refine Hd.slots [(1, _)] ⟨rfl, trivial⟩ ?_
  refine Hd.toK hK5 ?_
  refine Hd.seq (fun K6 hK6 => ?_)
  refine Hd.region ?_
  refine Hd.yv (y_move rfl) ?_
  refine Hd.yv (y_assign rfl) ?_
  refine Hd.nil ?_
  refine Hd.slots [(0, _)] ⟨rfl, trivial⟩ ?_
  refine Hd.toK hK6 ?_
  refine Hd.ret ?_
  clear hK1 hK2 hK3 hK4 hK5 hK6
  exact Hd.ret1 rfl (b3, rs3) rfl (Ent.sep (.pure ⟨h3.1, e3⟩ enn))
set_option maxHeartbeats 2000000 in
theorem finds_s (L : List SP) (b o : Nat) (rs : List Row) (hg : Good rs) (w : List UInt8) (hwl : w.length ≤ 70368744177664) (f : Int) (hf : InK .i64 f) (a : Nat) (h : FndS (flat rs) w f (some a)) : Ct Try.prog 29 #[.pointer (some ⟨b, o, none⟩), .string (str w), .int .i64 f, .int .i64 (a : Int)] (Ch b o rs :: L) (fun _ : Unit => .bool true) (fun _ : Unit => Ch b o rs :: L) := by
  refine Ct.of (vs := [.pointer (some ⟨b, o, none⟩), .string (str w), .int .i64 f, .int .i64 (a : Int)]) Try.func29 rfl rfl [(0, .pointer (some ⟨b, o, none⟩)), (1, .string (str w)), (2, .int .i64 f), (3, .int .i64 (a : Int))] (by repeat (first | exact trivial | refine ⟨rfl, ?_⟩)) ?_
  intro E
  show Hd E 36 _ _ _ _
  refine Hd.seq (fun K1 hK1 => ?_)
  refine Hd.region ?_
  refine Hd.yv (y_assign rfl) ?_
  refine Hd.nil ?_
  refine Hd.slots [(0, _), (1, _), (2, _), (3, _)] ⟨rfl, rfl, rfl, rfl, trivial⟩ ?_
  refine Hd.toK hK1 ?_
  refine Hd.seq (fun K2 hK2 => ?_)
  refine Hd.region ?_
  refine Hd.yv (y_move rfl) ?_
  refine Hd.yv (y_move rfl) ?_
  refine Hd.bytesOf Try.underlying9 Try.underlying22 Try.underlying5 rfl (by first | assumption | (simp only [maxLen]; omega)) (fun ad14 cap14 => ?_)
  refine Hd.yv (y_move rfl) ?_
  refine Hd.callE rfl fk20 (find_ct (own 5 1 ad14 w.length cap14 (bsl w) :: L) b o rs hg ad14 cap14 w (RdS.own .here) hwl f hf) (Ent.sep enn) ?_
  rintro r
  refine Hd.pure (fun hr => ?_)
  obtain rfl := fnd_one h hr
  refine Hd.yv (y_move rfl) ?_
  refine Hd.yv (y_extract rfl rfl) ?_
  refine Hd.yv (y_extract rfl rfl) ?_
  refine Hd.yv (y_assign rfl) ?_
  refine Hd.yv (y_assign rfl) ?_
  refine Hd.nil ?_
  refine Hd.slots [(3, _), (9, _), (10, _)] ⟨rfl, rfl, rfl, trivial⟩ ?_
  refine Hd.toK hK2 ?_
  refine Hd.seq (fun K3 hK3 => ?_)
  refine Hd.region ?_
  refine Hd.yv (y_move rfl) ?_
  refine Hd.yv (y_move rfl) ?_
  refine Hd.yv (y_to (y_geq rfl rfl) (congrArg Value.bool (decide_eq_true ((by omega))))) ?_
  refine Hd.yv (y_eqlb Try.underlying4 rfl rfl) ?_
  refine Hd.yv (y_move rfl) ?_
  refine Hd.yg rfl rfl (y_move rfl) ?_
  refine Hd.yg rfl rfl (y_not rfl) ?_
  refine Hd.yg rfl rfl (y_move rfl) ?_
  refine Hd.ng rfl rfl rfl ?_
  refine Hd.ng rfl rfl rfl ?_
  first | (refine Hd.yg rfl rfl (y_pickT rfl rfl) ?_) | (refine Hd.yg rfl rfl (y_pickF rfl rfl) ?_) | (refine Hd.yg rfl rfl (y_pickb rfl rfl rfl) ?_) | (refine Hd.yg rfl rfl (y_pick rfl rfl rfl) ?_)
  refine Hd.yg rfl rfl (y_move rfl) ?_
  refine Hd.yg rfl rfl (y_move rfl) ?_
  refine Hd.yg rfl rfl (y_move rfl) ?_
  first | (refine Hd.yg rfl rfl (y_eqlT rfl rfl) ?_) | (refine Hd.yg rfl rfl (y_eql rfl rfl) ?_)
  first | (refine Hd.yg rfl rfl (y_pickT rfl rfl) ?_) | (refine Hd.yg rfl rfl (y_pickF rfl rfl) ?_) | (refine Hd.yg rfl rfl (y_pickb rfl rfl rfl) ?_) | (refine Hd.yg rfl rfl (y_pick rfl rfl rfl) ?_)
  first | (refine Hd.yv (y_pickT rfl rfl) ?_) | (refine Hd.yv (y_pickF rfl rfl) ?_) | (refine Hd.yv (y_pickb rfl rfl rfl) ?_) | (refine Hd.yv (y_pick rfl rfl rfl) ?_)
  refine Hd.yv (y_assign rfl) ?_
  refine Hd.nil ?_
  refine Hd.slots [(8, _)] ⟨rfl, trivial⟩ ?_
  refine Hd.toK hK3 ?_
  refine Hd.ret ?_
  clear hK1 hK2 hK3
  exact Hd.ret1 rfl () (by first | rfl | (simp only [*]; done) | (simp [*]; done)) (Ent.sep enn)
set_option maxHeartbeats 2000000 in
theorem finds_n (L : List SP) (b o : Nat) (rs : List Row) (hg : Good rs) (w : List UInt8) (hwl : w.length ≤ 70368744177664) (f : Int) (hf : InK .i64 f) (h : FndS (flat rs) w f none) : Ct Try.prog 29 #[.pointer (some ⟨b, o, none⟩), .string (str w), .int .i64 f, .int .i64 (-1)] (Ch b o rs :: L) (fun _ : Unit => .bool true) (fun _ : Unit => Ch b o rs :: L) := by
  refine Ct.of (vs := [.pointer (some ⟨b, o, none⟩), .string (str w), .int .i64 f, .int .i64 (-1)]) Try.func29 rfl rfl [(0, .pointer (some ⟨b, o, none⟩)), (1, .string (str w)), (2, .int .i64 f), (3, .int .i64 (-1))] (by repeat (first | exact trivial | refine ⟨rfl, ?_⟩)) ?_
  intro E
  show Hd E 36 _ _ _ _
  refine Hd.seq (fun K1 hK1 => ?_)
  refine Hd.region ?_
  refine Hd.yv (y_assign rfl) ?_
  refine Hd.nil ?_
  refine Hd.slots [(0, _), (1, _), (2, _), (3, _)] ⟨rfl, rfl, rfl, rfl, trivial⟩ ?_
  refine Hd.toK hK1 ?_
  refine Hd.seq (fun K2 hK2 => ?_)
  refine Hd.region ?_
  refine Hd.yv (y_move rfl) ?_
  refine Hd.yv (y_move rfl) ?_
  refine Hd.bytesOf Try.underlying9 Try.underlying22 Try.underlying5 rfl (by first | assumption | (simp only [maxLen]; omega)) (fun ad14 cap14 => ?_)
  refine Hd.yv (y_move rfl) ?_
  refine Hd.callE rfl fk20 (find_ct (own 5 1 ad14 w.length cap14 (bsl w) :: L) b o rs hg ad14 cap14 w (RdS.own .here) hwl f hf) (Ent.sep enn) ?_
  rintro r
  refine Hd.pure (fun hr => ?_)
  obtain rfl := fnd_one h hr
  refine Hd.yv (y_move rfl) ?_
  refine Hd.yv (y_extract rfl rfl) ?_
  refine Hd.yv (y_extract rfl rfl) ?_
  refine Hd.yv (y_assign rfl) ?_
  refine Hd.yv (y_assign rfl) ?_
  refine Hd.nil ?_
  refine Hd.slots [(3, _), (9, _), (10, _)] ⟨rfl, rfl, rfl, trivial⟩ ?_
  refine Hd.toK hK2 ?_
  refine Hd.seq (fun K3 hK3 => ?_)
  refine Hd.region ?_
  refine Hd.yv (y_move rfl) ?_
  refine Hd.yv (y_move rfl) ?_
  refine Hd.yv (y_to (y_geq rfl rfl) (congrArg Value.bool (decide_eq_false ((by omega))))) ?_
  refine Hd.yv (y_eqlb Try.underlying4 rfl rfl) ?_
  refine Hd.yv (y_move rfl) ?_
  refine Hd.yg rfl rfl (y_move rfl) ?_
  refine Hd.yg rfl rfl (y_not rfl) ?_
  refine Hd.yg rfl rfl (y_move rfl) ?_
  refine Hd.yg rfl rfl (y_move rfl) ?_
  first | (refine Hd.yg rfl rfl (y_eqlT rfl rfl) ?_) | (refine Hd.yg rfl rfl (y_eql rfl rfl) ?_)
  first | (refine Hd.yg rfl rfl (y_pickT rfl rfl) ?_) | (refine Hd.yg rfl rfl (y_pickF rfl rfl) ?_) | (refine Hd.yg rfl rfl (y_pickb rfl rfl rfl) ?_) | (refine Hd.yg rfl rfl (y_pick rfl rfl rfl) ?_)
  refine Hd.yg rfl rfl (y_move rfl) ?_
  refine Hd.ng rfl rfl rfl ?_
  refine Hd.ng rfl rfl rfl ?_
  refine Hd.ng rfl rfl rfl ?_
  first | (refine Hd.yg rfl rfl (y_pickT rfl rfl) ?_) | (refine Hd.yg rfl rfl (y_pickF rfl rfl) ?_) | (refine Hd.yg rfl rfl (y_pickb rfl rfl rfl) ?_) | (refine Hd.yg rfl rfl (y_pick rfl rfl rfl) ?_)
  first | (refine Hd.yv (y_pickT rfl rfl) ?_) | (refine Hd.yv (y_pickF rfl rfl) ?_) | (refine Hd.yv (y_pickb rfl rfl rfl) ?_) | (refine Hd.yv (y_pick rfl rfl rfl) ?_)
  refine Hd.yv (y_assign rfl) ?_
  refine Hd.nil ?_
  refine Hd.slots [(8, _)] ⟨rfl, trivial⟩ ?_
  refine Hd.toK hK3 ?_
  refine Hd.ret ?_
  clear hK1 hK2 hK3
  exact Hd.ret1 rfl () (by first | rfl | (simp only [*]; done) | (simp [*]; done)) (Ent.sep enn)
set_option maxHeartbeats 2000000 in
theorem alive_ct (L : List SP) : Ct Try.prog 14 #[] (L) (fun _ : Unit => .bool true) (fun _ : Unit => L) := by
  refine Ct.of (vs := []) Try.func14 rfl rfl [] (by repeat (first | exact trivial | refine ⟨rfl, ?_⟩)) ?_
  intro E
  show Hd E 20 _ _ _ _
  refine Hd.seq (fun K1 hK1 => ?_)
  refine Hd.region ?_
  refine Hd.yv (y_assign rfl) ?_
  refine Hd.nil ?_
  refine Hd.slots [] trivial ?_
  refine Hd.toK hK1 ?_
  refine Hd.seq (fun K2 hK2 => ?_)
  refine Hd.region ?_
  refine Hd.callE rfl fk28 (some_ct _) (Ent.sep enn) ?_
  rintro ⟨b, rs⟩
  dsimp only
  refine Hd.pure (fun hrs => ?_)
  obtain ⟨hg, hrs⟩ := hrs
  refine Hd.yv (y_assign rfl) ?_
  refine Hd.nil ?_
  refine Hd.slots [(1, _)] ⟨rfl, trivial⟩ ?_
  refine Hd.toK hK2 ?_
  refine Hd.seq (fun K3 hK3 => ?_)
  refine Hd.region ?_
  refine Hd.yv (y_move rfl) ?_
  refine Hd.callE rfl fk23 (lenC_ct _ b 0 rs) (Ent.sep enn) ?_
  intro _
  first | (refine Hd.yv (y_to (y_eqlT rfl rfl) (congrArg Value.bool (decide_eq_true ((by rw [hrs]; rfl))))) ?_) | (refine Hd.yv (y_to (y_eql rfl rfl) (congrArg Value.bool (decide_eq_true ((by rw [hrs]; rfl))))) ?_)
  refine Hd.yv (y_move rfl) ?_
  refine Hd.yg rfl rfl (y_move rfl) ?_
  refine Hd.unguard rfl rfl ?_
  refine Hd.callE rfl fk22 (copy_ct _ b 0 rs hg 1 3 (by simp [InK]) (by simp [InK])) (Ent.sep enn) ?_
  rintro ⟨a8, c8⟩
  dsimp only
  refine Hd.yg rfl rfl (y_strOf (l := _) (by kernel_rfl) Try.underlying9 rfl (by (first | exact RdS.own pkk))) ?_
  refine Hd.yg rfl rfl (y_to (y_eqlstr rfl rfl) (congrArg Value.bool (decide_eq_true ((by rw [hrs]; decide))))) ?_
  first | (refine Hd.yv (y_pickT rfl rfl) ?_) | (refine Hd.yv (y_pickF rfl rfl) ?_) | (refine Hd.yv (y_pickb rfl rfl rfl) ?_) | (refine Hd.yv (y_pick rfl rfl rfl) ?_)
  refine Hd.yv (y_move rfl) ?_
  refine Hd.yg rfl rfl (y_move rfl) ?_
  refine Hd.unguard rfl rfl ?_
  refine Hd.callE rfl fk29 (finds_s _ b 0 rs hg [98, 99] (by simp) 0 (by simp [InK]) 2 (by rw [hrs]; exact fnd_of (by decide))) (Ent.sep enn) ?_
  intro _
  first | (refine Hd.yv (y_pickT rfl rfl) ?_) | (refine Hd.yv (y_pickF rfl rfl) ?_) | (refine Hd.yv (y_pickb rfl rfl rfl) ?_) | (refine Hd.yv (y_pick rfl rfl rfl) ?_)
  refine Hd.yv (y_move rfl) ?_
  refine Hd.yg rfl rfl (y_move rfl) ?_
  refine Hd.unguard rfl rfl ?_
  refine Hd.callE rfl fk29 (finds_n _ b 0 rs hg [120] (by simp) 1 (by simp [InK]) (by rw [hrs]; exact fnd_of (by decide))) (Ent.sep enn) ?_
  intro _
  first | (refine Hd.yv (y_pickT rfl rfl) ?_) | (refine Hd.yv (y_pickF rfl rfl) ?_) | (refine Hd.yv (y_pickb rfl rfl rfl) ?_) | (refine Hd.yv (y_pick rfl rfl rfl) ?_)
  refine Hd.yv (y_assign rfl) ?_
  refine Hd.nil ?_
  refine Hd.slots [(0, _)] ⟨rfl, trivial⟩ ?_
  refine Hd.toK hK3 ?_
  refine Hd.ret ?_
  clear hK1 hK2 hK3
  exact Hd.ret1 rfl () (by first | rfl | (simp only [*]; done) | (simp [*]; done)) (Ent.sep enn)
end Bc
end Go.Proofs.Ytgifpkpkkgkfeaa
