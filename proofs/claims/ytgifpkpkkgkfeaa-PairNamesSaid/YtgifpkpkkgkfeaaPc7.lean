/-
  The law PairNames answers true.
-/
import Derived.Test.YtgifpkpkkgkfeaaPc2
namespace Go.Proofs.Ytgifpkpkkgkfeaa
set_option linter.unusedSimpArgs false
set_option linter.unusedVariables false
set_option linter.unnecessarySimpa false
open Go.RX Fx
namespace Pa
open Bc
set_option maxRecDepth 8000
abbrev n2 : Nat → AE := aTurn al1 1 2 true
abbrev n3 : Nat → AE := aMarks n2 1 2 3 4
abbrev n4 : Nat → AE := (aStep n3).e
abbrev n5 : Nat → AE := aFinish n4 0
abbrev n6 : Nat → AE := aWrite n5 0 [120]
abbrev n7 : Nat → AE := (aFlush n6 0).e
abbrev n8 : Nat → AE := aRead n7 1 9
abbrev n9 : Nat → AE := (aStep n8).e
abbrev nT : List Value := encT { t0 with out := 2, wr := true } ++ encT { t0 with inn := 2, rd := true, ev := 17 }
abbrev n10 : Nat → AE := aTurn n9 2 2 true
abbrev n11 : Nat → AE := aTurn n10 0 1 true
abbrev n12 : Nat → AE := aMarks n11 0 4 0 1
abbrev n13 : Nat → AE := aMarks n12 0 6 0 0
abbrev n14 : Nat → AE := aFinish n13 (-1)
theorem nm_t : aggT (aFlush n6 0) = .agg nT.toArray := by rfl
theorem nm_u : aggT (aStep n8) = .agg (encT t0 ++ encT t0).toArray := by rfl
theorem nm_v : aggT (aFlush n14 5) = .agg (encT t0 ++ encT t0).toArray := by rfl
theorem nm_r : aReadV n7 1 9 = abc := by rfl
set_option maxHeartbeats 2000000 in
theorem names8_ct (L : List SP) : Ct Try.prog 10 #[] (L) (fun _ : Unit => .bool true) (fun _ : Unit => L) := by
  refine Ct.of (vs := []) Try.func10 rfl rfl [] (by repeat (first | exact trivial | refine ⟨rfl, ?_⟩)) ?_
  intro E
  show Hd E 132 _ _ _ _
  refine Hd.seq (fun K1 hK1 => ?_)
  refine Hd.region ?_
  refine Hd.yv (y_assign rfl) ?_
  refine Hd.nil ?_
  refine Hd.slots [] trivial ?_
  refine Hd.toK hK1 ?_
  refine Hd.seq (fun K2 hK2 => ?_)
  refine Hd.region ?_
  refine Hd.callE rfl fk32 (newA _) (Ent.sep enn) ?_
  intro bp
  refine Hd.yv (y_assign rfl) ?_
  refine Hd.nil ?_
  refine Hd.slots [(1, _)] ⟨rfl, trivial⟩ ?_
  refine Hd.toK hK2 ?_
  refine Hd.seq (fun K3 hK3 => ?_)
  refine Hd.region ?_
  refine Hd.yv (y_move rfl) ?_
  refine Hd.bslice (vs := [(0, _), (1, _), (2, _), (3, _), (4, _), (5, _)]) rfl (by first | exact bs10_18 .. | kernel_rfl) (fun b18 => ?_)
  refine Hd.convSS (e := 5) (by kernel_rfl) rfl pkk rfl (by first | decide | (simp [maxLen])) ?_
  refine Hd.callE rfl fk33 (writeA _ bp (fun _ => ae0) 0 (some ⟨b18, 0, none⟩) 6 abc ?hD (by decide) (by decide)) (Ent.sep enn) ?_
  case hD => exact RdS.own (m := 6) (us := [.int .u8 97, .int .u8 98, .int .u8 99, .int .u8 100, .int .u8 101, .int .u8 102]) pkk
  intro _
  refine Hd.nil ?_
  refine Hd.slots [(1, _)] ⟨rfl, trivial⟩ ?_
  refine Hd.toK hK3 ?_
  refine Hd.seq (fun K4 hK4 => ?_)
  refine Hd.region ?_
  refine Hd.yv (y_move rfl) ?_
  refine Hd.callE rfl fk34 (enableA _ bp al1 1 2 (by simp [InK])) (Ent.sep enn) ?_
  intro _
  refine Hd.nil ?_
  refine Hd.slots [(1, _)] ⟨rfl, trivial⟩ ?_
  refine Hd.toK hK4 ?_
  refine Hd.seq (fun K5 hK5 => ?_)
  refine Hd.region ?_
  refine Hd.yv (y_move rfl) ?_
  refine Hd.callE rfl fk35 (marksA _ bp n2 1 2 3 4) (Ent.sep enn) ?_
  intro _
  refine Hd.nil ?_
  refine Hd.slots [(1, _)] ⟨rfl, trivial⟩ ?_
  refine Hd.toK hK5 ?_
  refine Hd.seq (fun K6 hK6 => ?_)
  refine Hd.region ?_
  refine Hd.yv (y_move rfl) ?_
  refine Hd.callE rfl fk36 (step_ct _ bp n3) (Ent.sep enn) ?_
  intro _
  refine Hd.nil ?_
  refine Hd.slots [(1, _)] ⟨rfl, trivial⟩ ?_
  refine Hd.toK hK6 ?_
  refine Hd.seq (fun K7 hK7 => ?_)
  refine Hd.region ?_
  refine Hd.yv (y_move rfl) ?_
  refine Hd.callE rfl fk37 (lensA _ bp n4 0 (by decide)) (Ent.sep enn) ?_
  intro _
  refine Hd.yv (y_move rfl) ?_
  refine Hd.yv (y_extract rfl rfl) ?_
  refine Hd.yv (y_extract rfl rfl) ?_
  refine Hd.yv (y_assign rfl) ?_
  refine Hd.yv (y_assign rfl) ?_
  refine Hd.nil ?_
  refine Hd.slots [(1, _), (2, _), (3, _)] ⟨rfl, rfl, rfl, trivial⟩ ?_
  refine Hd.toK hK7 ?_
  refine Hd.seq (fun K8 hK8 => ?_)
  refine Hd.region ?_
  refine Hd.yv (y_move rfl) ?_
  refine Hd.callE rfl fk38 (finishA _ bp n4 0) (Ent.sep enn) ?_
  intro _
  refine Hd.yv (y_assign rfl) ?_
  refine Hd.nil ?_
  refine Hd.slots [(1, _), (2, _), (3, _), (4, _)] ⟨rfl, rfl, rfl, rfl, trivial⟩ ?_
  refine Hd.toK hK8 ?_
  refine Hd.seq (fun K9 hK9 => ?_)
  refine Hd.region ?_
  refine Hd.yv (y_move rfl) ?_
  refine Hd.bslice (vs := [(0, _)]) rfl (by first | exact bs10_35 .. | kernel_rfl) (fun b35 => ?_)
  refine Hd.convSS (e := 5) (by kernel_rfl) rfl pkk rfl (by first | decide | (simp [maxLen])) ?_
  refine Hd.callE rfl fk33 (writeA _ bp n5 0 (some ⟨b35, 0, none⟩) 1 [120] ?hD (by decide) (by decide)) (Ent.sep enn) ?_
  case hD => exact RdS.own (m := 1) (us := [.int .u8 120]) pkk
  intro _
  refine Hd.yv (y_assign rfl) ?_
  refine Hd.nil ?_
  refine Hd.slots [(1, _), (2, _), (3, _), (4, _), (5, _)] ⟨rfl, rfl, rfl, rfl, rfl, trivial⟩ ?_
  refine Hd.toK hK9 ?_
  refine Hd.seq (fun K10 hK10 => ?_)
  refine Hd.region ?_
  refine Hd.yv (y_move rfl) ?_
  refine Hd.callE rfl fk39 (flushA _ bp n6 0) (Ent.sep enn) ?_
  intro _
  rw [nm_t]
  refine Hd.alloc zr69 (fun b6 => ?_)
  refine Hd.storeA (us := nT) sz69 rfl rfl rfl (by simp [Value.oneCell']) pkk (by exact rfl) ?_
  refine Hd.nil ?_
  refine Hd.slots [(1, _), (2, _), (3, _), (4, _), (5, _), (6, _)] ⟨rfl, rfl, rfl, rfl, rfl, rfl, trivial⟩ ?_
  refine Hd.toK hK10 ?_
  refine Hd.seq (fun K11 hK11 => ?_)
  refine Hd.region ?_
  refine Hd.yv (y_move rfl) ?_
  refine Hd.callE rfl fk40 (readA _ bp n7 1 9 (by simp [InK])) (Ent.sep enn) ?_
  rintro ⟨a5, c5⟩
  dsimp only
  rw [nm_r]
  refine Hd.yv (y_assign rfl) ?_
  refine Hd.nil ?_
  refine Hd.slots [(1, _), (2, _), (3, _), (4, _), (5, _), (6, _), (7, _)] ⟨rfl, rfl, rfl, rfl, rfl, rfl, rfl, trivial⟩ ?_
  refine Hd.toK hK11 ?_
  refine Hd.seq (fun K12 hK12 => ?_)
  refine Hd.region ?_
  refine Hd.yv (y_move rfl) ?_
  refine Hd.callE rfl fk36 (step_ct _ bp n8) (Ent.sep enn) ?_
  intro _
  rw [nm_u]
  refine Hd.alloc zr69 (fun b8 => ?_)
  refine Hd.storeA (us := encT t0 ++ encT t0) sz69 rfl rfl rfl (by simp [Value.oneCell']) pkk (by exact rfl) ?_
  refine Hd.nil ?_
  refine Hd.slots [(1, _), (2, _), (3, _), (4, _), (5, _), (6, _), (7, _), (8, _)] ⟨rfl, rfl, rfl, rfl, rfl, rfl, rfl, rfl, trivial⟩ ?_
  refine Hd.toK hK12 ?_
  refine Hd.seq (fun K13 hK13 => ?_)
  refine Hd.region ?_
  refine Hd.yv (y_move rfl) ?_
  first | (refine Hd.yv (y_to (y_eqlT rfl rfl) (congrArg Value.bool (decide_eq_true ((by rfl))))) ?_) | (refine Hd.yv (y_to (y_eql rfl rfl) (congrArg Value.bool (decide_eq_true ((by rfl))))) ?_)
  refine Hd.yv (y_move rfl) ?_
  refine Hd.yg rfl rfl (y_move rfl) ?_
  first | (refine Hd.yg rfl rfl (y_to (y_eqlT rfl rfl) (congrArg Value.bool (decide_eq_true ((by rfl))))) ?_) | (refine Hd.yg rfl rfl (y_to (y_eql rfl rfl) (congrArg Value.bool (decide_eq_true ((by rfl))))) ?_)
  first | (refine Hd.yv (y_pickT rfl rfl) ?_) | (refine Hd.yv (y_pickF rfl rfl) ?_) | (refine Hd.yv (y_pickb rfl rfl rfl) ?_) | (refine Hd.yv (y_pick rfl rfl rfl) ?_)
  refine Hd.yv (y_move rfl) ?_
  refine Hd.yg rfl rfl (y_move rfl) ?_
  first | (refine Hd.yg rfl rfl (y_to (y_eqlT rfl rfl) (congrArg Value.bool (decide_eq_true ((by rfl))))) ?_) | (refine Hd.yg rfl rfl (y_to (y_eql rfl rfl) (congrArg Value.bool (decide_eq_true ((by rfl))))) ?_)
  first | (refine Hd.yv (y_pickT rfl rfl) ?_) | (refine Hd.yv (y_pickF rfl rfl) ?_) | (refine Hd.yv (y_pickb rfl rfl rfl) ?_) | (refine Hd.yv (y_pick rfl rfl rfl) ?_)
  refine Hd.yv (y_move rfl) ?_
  refine Hd.yg rfl rfl (y_move rfl) ?_
  first | (refine Hd.yg rfl rfl (y_to (y_eqlT rfl rfl) (congrArg Value.bool (decide_eq_true ((by rfl))))) ?_) | (refine Hd.yg rfl rfl (y_to (y_eql rfl rfl) (congrArg Value.bool (decide_eq_true ((by rfl))))) ?_)
  first | (refine Hd.yv (y_pickT rfl rfl) ?_) | (refine Hd.yv (y_pickF rfl rfl) ?_) | (refine Hd.yv (y_pickb rfl rfl rfl) ?_) | (refine Hd.yv (y_pick rfl rfl rfl) ?_)
  refine Hd.yv (y_move rfl) ?_
  refine Hd.yg rfl rfl (y_loadn (us := nT) ag69 rfl (Rd.pt pkk (fun j v e => by rw [Nat.zero_add]; exact e)) (by exact sz69)) ?_
  refine Hd.yg rfl rfl (y_build (vs := [(5, _), (1, _)]) rfl (by first | exact bd10_60 .. | kernel_rfl)) ?_
  refine Hd.yg rfl rfl (y_build (vs := [(4, _), (0, _), (2, _)]) rfl (by first | exact bd10_61 .. | kernel_rfl)) ?_
  refine Hd.yg rfl rfl (y_build (vs := [(0, _), (1, _)]) rfl (by first | exact bd10_62 .. | kernel_rfl)) ?_
  refine Hd.yg rfl rfl (y_to (v' := .bool true) (y_eql_nest rfl rfl eqn69 rfl ⟨rfl, rfl⟩) (by rfl)) ?_
  first | (refine Hd.yv (y_pickT rfl rfl) ?_) | (refine Hd.yv (y_pickF rfl rfl) ?_) | (refine Hd.yv (y_pickb rfl rfl rfl) ?_) | (refine Hd.yv (y_pick rfl rfl rfl) ?_)
  refine Hd.yv (y_move rfl) ?_
  refine Hd.yg rfl rfl (y_move rfl) ?_
  refine Hd.yg rfl rfl (y_strOf (l := abc) (by kernel_rfl) Try.underlying9 rfl (by (first | exact RdS.own pkk))) ?_
  refine Hd.yg rfl rfl (y_to (v' := .bool true) (y_eqlstr rfl rfl) (by simp [abc])) ?_
  first | (refine Hd.yv (y_pickT rfl rfl) ?_) | (refine Hd.yv (y_pickF rfl rfl) ?_) | (refine Hd.yv (y_pickb rfl rfl rfl) ?_) | (refine Hd.yv (y_pick rfl rfl rfl) ?_)
  refine Hd.yv (y_move rfl) ?_
  refine Hd.yg rfl rfl (y_loadn (us := encT t0 ++ encT t0) ag69 rfl (Rd.pt pkk (fun j v e => by rw [Nat.zero_add]; exact e)) (by exact sz69)) ?_
  refine Hd.yg rfl rfl (y_build (vs := []) rfl (by first | exact bd10_72 .. | kernel_rfl)) ?_
  refine Hd.yg rfl rfl (y_to (v' := .bool true) (y_eql_nest rfl rfl eqn69 rfl ⟨rfl, rfl⟩) (by rfl)) ?_
  first | (refine Hd.yv (y_pickT rfl rfl) ?_) | (refine Hd.yv (y_pickF rfl rfl) ?_) | (refine Hd.yv (y_pickb rfl rfl rfl) ?_) | (refine Hd.yv (y_pick rfl rfl rfl) ?_)
  refine Hd.yv (y_assign rfl) ?_
  refine Hd.nil ?_
  refine Hd.slots [(1, _), (9, _)] ⟨rfl, rfl, trivial⟩ ?_
  refine Hd.toK hK13 ?_
  refine Hd.seq (fun K14 hK14 => ?_)
  refine Hd.region ?_
  refine Hd.yv (y_move rfl) ?_
  refine Hd.callE rfl fk34 (enableA _ bp n9 2 2 (by simp [InK])) (Ent.sep enn) ?_
  intro _
  refine Hd.yv (y_assign rfl) ?_
  refine Hd.nil ?_
  refine Hd.slots [(1, _), (9, _), (10, _)] ⟨rfl, rfl, rfl, trivial⟩ ?_
  refine Hd.toK hK14 ?_
  refine Hd.seq (fun K15 hK15 => ?_)
  refine Hd.region ?_
  refine Hd.yv (y_move rfl) ?_
  refine Hd.callE rfl fk34 (enableA _ bp n10 0 1 (by simp [InK])) (Ent.sep enn) ?_
  intro _
  refine Hd.yv (y_assign rfl) ?_
  refine Hd.nil ?_
  refine Hd.slots [(1, _), (9, _), (10, _), (11, _)] ⟨rfl, rfl, rfl, rfl, trivial⟩ ?_
  refine Hd.toK hK15 ?_
  refine Hd.seq (fun K16 hK16 => ?_)
  refine Hd.region ?_
  refine Hd.yv (y_move rfl) ?_
  refine Hd.callE rfl fk35 (marksA _ bp n11 0 4 0 1) (Ent.sep enn) ?_
  intro _
  refine Hd.yv (y_assign rfl) ?_
  refine Hd.nil ?_
  refine Hd.slots [(1, _), (9, _), (10, _), (11, _), (12, _)] ⟨rfl, rfl, rfl, rfl, rfl, trivial⟩ ?_
  refine Hd.toK hK16 ?_
  refine Hd.seq (fun K17 hK17 => ?_)
  refine Hd.region ?_
  refine Hd.yv (y_move rfl) ?_
  refine Hd.callE rfl fk35 (marksA _ bp n12 0 6 0 0) (Ent.sep enn) ?_
  intro _
  refine Hd.yv (y_assign rfl) ?_
  refine Hd.nil ?_
  refine Hd.slots [(1, _), (9, _), (10, _), (11, _), (12, _), (13, _)] ⟨rfl, rfl, rfl, rfl, rfl, rfl, trivial⟩ ?_
  refine Hd.toK hK17 ?_
  refine Hd.seq (fun K18 hK18 => ?_)
  refine Hd.region ?_
  refine Hd.yv (y_move rfl) ?_
  refine Hd.callE rfl fk38 (finishA _ bp n13 (-1)) (Ent.sep enn) ?_
  intro _
  refine Hd.yv (y_assign rfl) ?_
  refine Hd.nil ?_
  refine Hd.slots [(1, _), (9, _), (10, _), (11, _), (12, _), (13, _), (14, _)] ⟨rfl, rfl, rfl, rfl, rfl, rfl, rfl, trivial⟩ ?_
  refine Hd.toK hK18 ?_
  refine Hd.seq (fun K19 hK19 => ?_)
  refine Hd.region ?_
  refine Hd.yv (y_assign rfl) ?_
  refine Hd.nil ?_
  refine Hd.slots [(1, _), (9, _), (10, _), (11, _), (12, _), (13, _), (14, _), (15, _)] ⟨rfl, rfl, rfl, rfl, rfl, rfl, rfl, rfl, trivial⟩ ?_
  refine Hd.toK hK19 ?_
  refine Hd.seq (fun K20 hK20 => ?_)
  refine Hd.region ?_
  refine Hd.callE rfl fk41 (alive8_ct _) (Ent.sep enn) ?_
  intro _
  refine Hd.yv (y_move rfl) ?_
  refine Hd.yg rfl rfl (y_move rfl) ?_
  first | (refine Hd.yv (y_pickT rfl rfl) ?_) | (refine Hd.yv (y_pickF rfl rfl) ?_) | (refine Hd.yv (y_pickb rfl rfl rfl) ?_) | (refine Hd.yv (y_pick rfl rfl rfl) ?_)
  refine Hd.yv (y_move rfl) ?_
  refine Hd.yg rfl rfl (y_move rfl) ?_
  first | (refine Hd.yg rfl rfl (y_to (y_eqlT rfl rfl) (congrArg Value.bool (decide_eq_true ((by rfl))))) ?_) | (refine Hd.yg rfl rfl (y_to (y_eql rfl rfl) (congrArg Value.bool (decide_eq_true ((by rfl))))) ?_)
  first | (refine Hd.yv (y_pickT rfl rfl) ?_) | (refine Hd.yv (y_pickF rfl rfl) ?_) | (refine Hd.yv (y_pickb rfl rfl rfl) ?_) | (refine Hd.yv (y_pick rfl rfl rfl) ?_)
  refine Hd.yv (y_move rfl) ?_
  refine Hd.yg rfl rfl (y_move rfl) ?_
  first | (refine Hd.yg rfl rfl (y_to (y_eqlT rfl rfl) (congrArg Value.bool (decide_eq_true ((by rfl))))) ?_) | (refine Hd.yg rfl rfl (y_to (y_eql rfl rfl) (congrArg Value.bool (decide_eq_true ((by rfl))))) ?_)
  first | (refine Hd.yv (y_pickT rfl rfl) ?_) | (refine Hd.yv (y_pickF rfl rfl) ?_) | (refine Hd.yv (y_pickb rfl rfl rfl) ?_) | (refine Hd.yv (y_pick rfl rfl rfl) ?_)
  refine Hd.yv (y_move rfl) ?_
  refine Hd.yg rfl rfl (y_move rfl) ?_
  first | (refine Hd.yg rfl rfl (y_to (y_eqlT rfl rfl) (congrArg Value.bool (decide_eq_true ((by rfl))))) ?_) | (refine Hd.yg rfl rfl (y_to (y_eql rfl rfl) (congrArg Value.bool (decide_eq_true ((by rfl))))) ?_)
  first | (refine Hd.yv (y_pickT rfl rfl) ?_) | (refine Hd.yv (y_pickF rfl rfl) ?_) | (refine Hd.yv (y_pickb rfl rfl rfl) ?_) | (refine Hd.yv (y_pick rfl rfl rfl) ?_)
  refine Hd.yv (y_move rfl) ?_
  refine Hd.yg rfl rfl (y_move rfl) ?_
  first | (refine Hd.yg rfl rfl (y_to (y_eqlT rfl rfl) (congrArg Value.bool (decide_eq_true ((by rfl))))) ?_) | (refine Hd.yg rfl rfl (y_to (y_eql rfl rfl) (congrArg Value.bool (decide_eq_true ((by rfl))))) ?_)
  first | (refine Hd.yv (y_pickT rfl rfl) ?_) | (refine Hd.yv (y_pickF rfl rfl) ?_) | (refine Hd.yv (y_pickb rfl rfl rfl) ?_) | (refine Hd.yv (y_pick rfl rfl rfl) ?_)
  refine Hd.yv (y_move rfl) ?_
  refine Hd.yg rfl rfl (y_move rfl) ?_
  first | (refine Hd.yg rfl rfl (y_to (y_eqlT rfl rfl) (congrArg Value.bool (decide_eq_true ((by rfl))))) ?_) | (refine Hd.yg rfl rfl (y_to (y_eql rfl rfl) (congrArg Value.bool (decide_eq_true ((by rfl))))) ?_)
  first | (refine Hd.yv (y_pickT rfl rfl) ?_) | (refine Hd.yv (y_pickF rfl rfl) ?_) | (refine Hd.yv (y_pickb rfl rfl rfl) ?_) | (refine Hd.yv (y_pick rfl rfl rfl) ?_)
  refine Hd.yv (y_move rfl) ?_
  refine Hd.yg rfl rfl (y_move rfl) ?_
  refine Hd.unguard rfl rfl ?_
  refine Hd.callE rfl fk33 (write_nil _ 0 _) (Ent.sep enn) ?_
  intro _
  first | (refine Hd.yg rfl rfl (y_to (y_eqlT rfl rfl) (congrArg Value.bool (decide_eq_true ((by rfl))))) ?_) | (refine Hd.yg rfl rfl (y_to (y_eql rfl rfl) (congrArg Value.bool (decide_eq_true ((by rfl))))) ?_)
  first | (refine Hd.yv (y_pickT rfl rfl) ?_) | (refine Hd.yv (y_pickF rfl rfl) ?_) | (refine Hd.yv (y_pickb rfl rfl rfl) ?_) | (refine Hd.yv (y_pick rfl rfl rfl) ?_)
  refine Hd.yv (y_move rfl) ?_
  refine Hd.yg rfl rfl (y_move rfl) ?_
  refine Hd.unguard rfl rfl ?_
  refine Hd.callE rfl fk36 (step_nil _) (Ent.sep enn) ?_
  intro _
  refine Hd.yg rfl rfl (y_build (vs := []) rfl (by first | exact bd10_117 .. | kernel_rfl)) ?_
  refine Hd.yg rfl rfl (y_to (v' := .bool true) (y_eql_nest rfl rfl eqn69 rfl ⟨rfl, rfl⟩) (by rfl)) ?_
  first | (refine Hd.yv (y_pickT rfl rfl) ?_) | (refine Hd.yv (y_pickF rfl rfl) ?_) | (refine Hd.yv (y_pickb rfl rfl rfl) ?_) | (refine Hd.yv (y_pick rfl rfl rfl) ?_)
  refine Hd.yv (y_move rfl) ?_
  refine Hd.yg rfl rfl (y_move rfl) ?_
  refine Hd.unguard rfl rfl ?_
  refine Hd.callE rfl fk40 (read_nil _ 0 1) (Ent.sep enn) ?_
  intro _
  refine Hd.yg rfl rfl (y_len Try.underlying22 rfl) ?_
  first | (refine Hd.yg rfl rfl (y_to (y_eqlT rfl rfl) (congrArg Value.bool (decide_eq_true ((by rfl))))) ?_) | (refine Hd.yg rfl rfl (y_to (y_eql rfl rfl) (congrArg Value.bool (decide_eq_true ((by rfl))))) ?_)
  first | (refine Hd.yv (y_pickT rfl rfl) ?_) | (refine Hd.yv (y_pickF rfl rfl) ?_) | (refine Hd.yv (y_pickb rfl rfl rfl) ?_) | (refine Hd.yv (y_pick rfl rfl rfl) ?_)
  refine Hd.yv (y_move rfl) ?_
  refine Hd.yg rfl rfl (y_move rfl) ?_
  refine Hd.unguard rfl rfl ?_
  refine Hd.callE rfl fk39 (flushA _ bp n14 5) (Ent.sep enn) ?_
  intro _
  rw [nm_v]
  refine Hd.yg rfl rfl (y_build (vs := []) rfl (by first | exact bd10_129 .. | kernel_rfl)) ?_
  refine Hd.yg rfl rfl (y_to (v' := .bool true) (y_eql_nest rfl rfl eqn69 rfl ⟨rfl, rfl⟩) (by rfl)) ?_
  first | (refine Hd.yv (y_pickT rfl rfl) ?_) | (refine Hd.yv (y_pickF rfl rfl) ?_) | (refine Hd.yv (y_pickb rfl rfl rfl) ?_) | (refine Hd.yv (y_pick rfl rfl rfl) ?_)
  refine Hd.yv (y_assign rfl) ?_
  refine Hd.nil ?_
  refine Hd.slots [(0, _)] ⟨rfl, trivial⟩ ?_
  refine Hd.toK hK20 ?_
  refine Hd.ret ?_
  clear hK1 hK2 hK3 hK4 hK5 hK6 hK7 hK8 hK9 hK10 hK11 hK12 hK13 hK14 hK15 hK16 hK17 hK18 hK19 hK20
  exact Hd.ret1 rfl () (by first | rfl | (simp only [*]; done) | (simp [*]; done)) (Ent.sep enn)
end Pa
end Go.Proofs.Ytgifpkpkkgkfeaa
