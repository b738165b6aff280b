/-
  The pair's laws: the chapter's first example.
-/
import Derived.Test.YtgifpkpkkgkfeaaPc1
import Derived.Test.YtgifpkpkkgkfeaaRxE
namespace Go.Proofs.Ytgifpkpkkgkfeaa
set_option linter.unusedSimpArgs false
set_option linter.unusedVariables false
set_option linter.unnecessarySimpa false
open Go.RX Fx
namespace Pa
open Bc
set_option maxRecDepth 8000
theorem eqn69 : EqN Try.prog 69 [.bool, .bool, .int .i64, .int .i64, .int .i64, .int .i64, .bool, .bool, .int .i64, .int .i64, .int .i64, .int .i64] := ⟨by kernel_rfl, by kernel_rfl, by kernel_rfl⟩
def abc : List UInt8 := [97, 98, 99, 100, 101, 102]
abbrev al1 : Nat → AE := aWrite (fun _ => ae0) 0 abc
abbrev al2 : Nat → AE := (aStep al1).e
abbrev al3 : Nat → AE := aTurn al2 1 2 true
abbrev al4 : Nat → AE := aMarks al3 1 2 3 4
theorem al_w : aWriteV (fun _ => ae0) 0 abc = 0 := by decide +kernel
theorem al_t : aggT (aStep al1) = .agg (encT t0 ++ encT t0).toArray := by rfl
theorem al_u : aggT (aStep al4) = .agg (encT { t0 with out := 4 } ++ encT { t0 with inn := 4, rd := true }).toArray := by rfl
set_option maxHeartbeats 2000000 in
theorem alive8_ct (L : List SP) : Ct Try.prog 41 #[] (L) (fun _ : Unit => .bool true) (fun _ : Unit => L) := by
  refine Ct.of (vs := []) Try.func41 rfl rfl [] (by repeat (first | exact trivial | refine ⟨rfl, ?_⟩)) ?_
  intro E
  show Hd E 42 _ _ _ _
  refine Hd.seq (fun K1 hK1 => ?_)
  refine Hd.region ?_
  refine Hd.yv (y_assign rfl) ?_
  refine Hd.nil ?_
  refine Hd.slots [] trivial ?_
  refine Hd.toK hK1 ?_
  refine Hd.seq (fun K2 hK2 => ?_)
  refine Hd.region ?_
  refine Hd.callE rfl fk32 (newA _) (Ent.sep enn) ?_
  intro bp
  refine Hd.yv (y_assign rfl) ?_
  refine Hd.nil ?_
  refine Hd.slots [(1, _)] ⟨rfl, trivial⟩ ?_
  refine Hd.toK hK2 ?_
  refine Hd.seq (fun K3 hK3 => ?_)
  refine Hd.region ?_
  refine Hd.yv (y_move rfl) ?_
  refine Hd.bslice (vs := [(0, _), (1, _), (2, _), (3, _), (4, _), (5, _)]) rfl (by first | exact bs41_9 .. | kernel_rfl) (fun b9 => ?_)
  refine Hd.convSS (e := 5) (by kernel_rfl) rfl pkk rfl (by first | decide | (simp [maxLen])) ?_
  refine Hd.callE rfl fk33 (writeA _ bp (fun _ => ae0) 0 (some ⟨b9, 0, none⟩) 6 abc ?hD (by decide) (by decide)) (Ent.sep enn) ?_
  case hD => exact RdS.own (m := 6) (us := [.int .u8 97, .int .u8 98, .int .u8 99, .int .u8 100, .int .u8 101, .int .u8 102]) pkk
  intro _
  rw [al_w]
  refine Hd.yv (y_assign rfl) ?_
  refine Hd.nil ?_
  refine Hd.slots [(1, _), (2, _)] ⟨rfl, rfl, trivial⟩ ?_
  refine Hd.toK hK3 ?_
  refine Hd.seq (fun K4 hK4 => ?_)
  refine Hd.region ?_
  refine Hd.yv (y_move rfl) ?_
  refine Hd.callE rfl fk36 (step_ct _ bp al1) (Ent.sep enn) ?_
  intro _
  rw [al_t]
  refine Hd.alloc zr69 (fun b3 => ?_)
  refine Hd.storeA (us := encT t0 ++ encT t0) sz69 rfl rfl rfl (by simp [Value.oneCell']) pkk (by exact rfl) ?_
  refine Hd.nil ?_
  refine Hd.slots [(1, _), (2, _), (3, _)] ⟨rfl, rfl, rfl, trivial⟩ ?_
  refine Hd.toK hK4 ?_
  refine Hd.seq (fun K5 hK5 => ?_)
  refine Hd.region ?_
  refine Hd.yv (y_move rfl) ?_
  refine Hd.callE rfl fk34 (enableA _ bp al2 1 2 (by simp [InK])) (Ent.sep enn) ?_
  intro _
  refine Hd.yv (y_assign rfl) ?_
  refine Hd.nil ?_
  refine Hd.slots [(1, _), (2, _), (3, _), (4, _)] ⟨rfl, rfl, rfl, rfl, trivial⟩ ?_
  refine Hd.toK hK5 ?_
  refine Hd.seq (fun K6 hK6 => ?_)
  refine Hd.region ?_
  refine Hd.yv (y_move rfl) ?_
  refine Hd.callE rfl fk35 (marksA _ bp al3 1 2 3 4) (Ent.sep enn) ?_
  intro _
  refine Hd.yv (y_assign rfl) ?_
  refine Hd.nil ?_
  refine Hd.slots [(1, _), (2, _), (3, _), (4, _), (5, _)] ⟨rfl, rfl, rfl, rfl, rfl, trivial⟩ ?_
  refine Hd.toK hK6 ?_
  refine Hd.seq (fun K7 hK7 => ?_)
  refine Hd.region ?_
  refine Hd.yv (y_move rfl) ?_
  refine Hd.callE rfl fk36 (step_ct _ bp al4) (Ent.sep enn) ?_
  intro _
  rw [al_u]
  refine Hd.alloc zr69 (fun b6 => ?_)
  refine Hd.storeA (us := encT { t0 with out := 4 } ++ encT { t0 with inn := 4, rd := true }) sz69 rfl rfl rfl (by simp [Value.oneCell']) pkk (by exact rfl) ?_
  refine Hd.nil ?_
  refine Hd.slots [(2, _), (3, _), (4, _), (5, _), (6, _)] ⟨rfl, rfl, rfl, rfl, rfl, trivial⟩ ?_
  refine Hd.toK hK7 ?_
  refine Hd.seq (fun K8 hK8 => ?_)
  refine Hd.region ?_
  refine Hd.yv (y_move rfl) ?_
  first | (refine Hd.yv (y_eqlT rfl rfl) ?_) | (refine Hd.yv (y_eql rfl rfl) ?_)
  refine Hd.yv (y_move rfl) ?_
  refine Hd.yg rfl rfl (y_loadn (us := encT t0 ++ encT t0) ag69 rfl (Rd.pt pkk (fun j v e => by rw [Nat.zero_add]; exact e)) (by exact sz69)) ?_
  refine Hd.yg rfl rfl (y_build (vs := []) rfl (by first | exact bd41_24 .. | kernel_rfl)) ?_
  refine Hd.yg rfl rfl (y_to (v' := .bool true) (y_eql_nest rfl rfl eqn69 rfl ⟨rfl, rfl⟩) (by rfl)) ?_
  first | (refine Hd.yv (y_pickT rfl rfl) ?_) | (refine Hd.yv (y_pickF rfl rfl) ?_) | (refine Hd.yv (y_pickb rfl rfl rfl) ?_) | (refine Hd.yv (y_pick rfl rfl rfl) ?_)
  refine Hd.yv (y_move rfl) ?_
  refine Hd.yg rfl rfl (y_move rfl) ?_
  first | (refine Hd.yg rfl rfl (y_to (y_eqlT rfl rfl) (congrArg Value.bool (decide_eq_true ((by decide))))) ?_) | (refine Hd.yg rfl rfl (y_to (y_eql rfl rfl) (congrArg Value.bool (decide_eq_true ((by decide))))) ?_)
  first | (refine Hd.yv (y_pickT rfl rfl) ?_) | (refine Hd.yv (y_pickF rfl rfl) ?_) | (refine Hd.yv (y_pickb rfl rfl rfl) ?_) | (refine Hd.yv (y_pick rfl rfl rfl) ?_)
  refine Hd.yv (y_move rfl) ?_
  refine Hd.yg rfl rfl (y_move rfl) ?_
  first | (refine Hd.yg rfl rfl (y_to (y_eqlT rfl rfl) (congrArg Value.bool (decide_eq_true ((by decide))))) ?_) | (refine Hd.yg rfl rfl (y_to (y_eql rfl rfl) (congrArg Value.bool (decide_eq_true ((by decide))))) ?_)
  first | (refine Hd.yv (y_pickT rfl rfl) ?_) | (refine Hd.yv (y_pickF rfl rfl) ?_) | (refine Hd.yv (y_pickb rfl rfl rfl) ?_) | (refine Hd.yv (y_pick rfl rfl rfl) ?_)
  refine Hd.yv (y_move rfl) ?_
  refine Hd.yg rfl rfl (y_loadn (us := encT { t0 with out := 4 } ++ encT { t0 with inn := 4, rd := true }) ag69 rfl (Rd.pt pkk (fun j v e => by rw [Nat.zero_add]; exact e)) (by exact sz69)) ?_
  refine Hd.yg rfl rfl (y_build (vs := [(5, _)]) rfl (by first | exact bd41_37 .. | kernel_rfl)) ?_
  refine Hd.yg rfl rfl (y_build (vs := [(4, _), (0, _)]) rfl (by first | exact bd41_38 .. | kernel_rfl)) ?_
  refine Hd.yg rfl rfl (y_build (vs := [(0, _), (1, _)]) rfl (by first | exact bd41_39 .. | kernel_rfl)) ?_
  refine Hd.yg rfl rfl (y_to (v' := .bool true) (y_eql_nest rfl rfl eqn69 rfl ⟨rfl, rfl⟩) (by rfl)) ?_
  first | (refine Hd.yv (y_pickT rfl rfl) ?_) | (refine Hd.yv (y_pickF rfl rfl) ?_) | (refine Hd.yv (y_pickb rfl rfl rfl) ?_) | (refine Hd.yv (y_pick rfl rfl rfl) ?_)
  refine Hd.yv (y_assign rfl) ?_
  refine Hd.nil ?_
  refine Hd.slots [(0, _)] ⟨rfl, trivial⟩ ?_
  refine Hd.toK hK8 ?_
  refine Hd.ret ?_
  clear hK1 hK2 hK3 hK4 hK5 hK6 hK7 hK8
  exact Hd.ret1 rfl () (by first | rfl | (simp only [*]; done) | (simp [*]; done)) (Ent.sep enn)
end Pa
end Go.Proofs.Ytgifpkpkkgkfeaa
