/-
  Facts of the seat's program: its types, which functions have a body, what is built.
-/
import Derived.Test.YtkgkfjhfedjnpaaRows
import Derived.Test.YtkgkfjhfedjnpaaRxA
import Derived.Test.YtkgkfjhfedjnpaaRxS
import Derived.Test.YtkgkfjhfedjnpaaRxH
import Derived.Test.YtkgkfjhfedjnpaaRxM
namespace Go.Proofs.Ytkgkfjhfedjnpaa
set_option linter.unusedSimpArgs false
set_option linter.unusedVariables false
set_option linter.unnecessarySimpa false
open Go.RX
namespace Fx
theorem ag3 : agk Try.prog 3 = some false := by kernel_rfl
theorem sz3 : szk Try.prog 3 = some 1 := by kernel_rfl
theorem zr3 : zrk Try.prog 3 = some ([.int .i64 0]) := by kernel_rfl
theorem ty3 : tyr Try.prog 3 = some (1, 8, 1) := by kernel_rfl
theorem ag4 : agk Try.prog 4 = some false := by kernel_rfl
theorem sz4 : szk Try.prog 4 = some 1 := by kernel_rfl
theorem zr4 : zrk Try.prog 4 = some ([.bool false]) := by kernel_rfl
theorem ty4 : tyr Try.prog 4 = some (1, 1, 1) := by kernel_rfl
theorem ag22 : agk Try.prog 22 = some false := by kernel_rfl
theorem sz22 : szk Try.prog 22 = some 1 := by kernel_rfl
theorem zr22 : zrk Try.prog 22 = some ([.slice none 0 0]) := by kernel_rfl
theorem ty22 : tyr Try.prog 22 = some (1, 24, 1) := by kernel_rfl
theorem ag27 : agk Try.prog 27 = some true := by kernel_rfl
theorem sz27 : szk Try.prog 27 = some 3 := by kernel_rfl
theorem zr27 : zrk Try.prog 27 = some ([.int .i64 0, .int .i64 0, .int .i64 0]) := by kernel_rfl
theorem ty27 : tyr Try.prog 27 = some (3, 24, 3) := by kernel_rfl
theorem ag30 : agk Try.prog 30 = some false := by kernel_rfl
theorem sz30 : szk Try.prog 30 = some 1 := by kernel_rfl
theorem zr30 : zrk Try.prog 30 = some ([.slice none 0 0]) := by kernel_rfl
theorem ty30 : tyr Try.prog 30 = some (1, 24, 1) := by kernel_rfl
theorem ag34 : agk Try.prog 34 = some false := by kernel_rfl
theorem sz34 : szk Try.prog 34 = some 1 := by kernel_rfl
theorem zr34 : zrk Try.prog 34 = some ([.slice none 0 0]) := by kernel_rfl
theorem ty34 : tyr Try.prog 34 = some (1, 24, 1) := by kernel_rfl
theorem ag36 : agk Try.prog 36 = some false := by kernel_rfl
theorem sz36 : szk Try.prog 36 = some 1 := by kernel_rfl
theorem zr36 : zrk Try.prog 36 = some ([.pointer none]) := by kernel_rfl
theorem ty36 : tyr Try.prog 36 = some (1, 8, 1) := by kernel_rfl
theorem ag38 : agk Try.prog 38 = some false := by kernel_rfl
theorem sz38 : szk Try.prog 38 = some 1 := by kernel_rfl
theorem zr38 : zrk Try.prog 38 = some ([.int .i64 0]) := by kernel_rfl
theorem ty38 : tyr Try.prog 38 = some (1, 8, 1) := by kernel_rfl
theorem ag41 : agk Try.prog 41 = some true := by kernel_rfl
theorem sz41 : szk Try.prog 41 = some 3 := by kernel_rfl
theorem zr41 : zrk Try.prog 41 = some ([.int .i64 0, .int .i64 0, .int .i64 0]) := by kernel_rfl
theorem ty41 : tyr Try.prog 41 = some (3, 24, 3) := by kernel_rfl
theorem ag42 : agk Try.prog 42 = some false := by kernel_rfl
theorem sz42 : szk Try.prog 42 = some 1 := by kernel_rfl
theorem zr42 : zrk Try.prog 42 = some ([.slice none 0 0]) := by kernel_rfl
theorem ty42 : tyr Try.prog 42 = some (1, 24, 1) := by kernel_rfl
theorem ag44 : agk Try.prog 44 = some false := by kernel_rfl
theorem sz44 : szk Try.prog 44 = some 1 := by kernel_rfl
theorem zr44 : zrk Try.prog 44 = some ([.map none]) := by kernel_rfl
theorem ty44 : tyr Try.prog 44 = some (1, 8, 1) := by kernel_rfl
theorem ag47 : agk Try.prog 47 = some true := by kernel_rfl
theorem sz47 : szk Try.prog 47 = some 96 := by kernel_rfl
theorem zr47 : zrk Try.prog 47 = some (List.replicate 96 (.int .i64 0)) := by kernel_rfl
theorem ty47 : tyr Try.prog 47 = some (96, 768, 96) := by kernel_rfl
theorem ag49 : agk Try.prog 49 = some false := by kernel_rfl
theorem sz49 : szk Try.prog 49 = some 1 := by kernel_rfl
theorem zr49 : zrk Try.prog 49 = some ([.pointer none]) := by kernel_rfl
theorem ty49 : tyr Try.prog 49 = some (1, 8, 1) := by kernel_rfl
theorem ag51 : agk Try.prog 51 = some true := by kernel_rfl
theorem sz51 : szk Try.prog 51 = some 192 := by kernel_rfl
theorem zr51 : zrk Try.prog 51 = some (List.replicate 96 (.int .i64 0) ++ List.replicate 96 (.int .i64 0)) := by kernel_rfl
theorem ty51 : tyr Try.prog 51 = some (192, 1536, 192) := by kernel_rfl
theorem ag58 : agk Try.prog 58 = some true := by kernel_rfl
theorem sz58 : szk Try.prog 58 = some 4 := by kernel_rfl
theorem zr58 : zrk Try.prog 58 = some ([.int .i64 0, .int .i64 0, .int .i64 0, .int .i64 0]) := by kernel_rfl
theorem ty58 : tyr Try.prog 58 = some (4, 32, 4) := by kernel_rfl
theorem ag60 : agk Try.prog 60 = some true := by kernel_rfl
theorem sz60 : szk Try.prog 60 = some 193 := by kernel_rfl
theorem zr60 : zrk Try.prog 60 = some (List.replicate 96 (.int .i64 0) ++ List.replicate 96 (.int .i64 0) ++ [.bool false]) := by kernel_rfl
theorem ty60 : tyr Try.prog 60 = some (193, 1544, 193) := by kernel_rfl
theorem ag62 : agk Try.prog 62 = some true := by kernel_rfl
theorem sz62 : szk Try.prog 62 = some 2 := by kernel_rfl
theorem zr62 : zrk Try.prog 62 = some ([.int .i64 0, .int .i64 0]) := by kernel_rfl
theorem ty62 : tyr Try.prog 62 = some (2, 16, 2) := by kernel_rfl
theorem ag63 : agk Try.prog 63 = some true := by kernel_rfl
theorem sz63 : szk Try.prog 63 = some 6 := by kernel_rfl
theorem zr63 : zrk Try.prog 63 = some ([.int .i64 0, .int .i64 0, .int .i64 0, .int .i64 0, .int .i64 0, .int .i64 0]) := by kernel_rfl
theorem ty63 : tyr Try.prog 63 = some (6, 48, 6) := by kernel_rfl
theorem ag65 : agk Try.prog 65 = some true := by kernel_rfl
theorem sz65 : szk Try.prog 65 = some 4 := by kernel_rfl
theorem zr65 : zrk Try.prog 65 = some ([.int .i64 0, .int .i64 0, .int .i64 0, .int .i64 0]) := by kernel_rfl
theorem ty65 : tyr Try.prog 65 = some (4, 32, 4) := by kernel_rfl
theorem eqt27 : EqT Try.prog 27 [.int .i64, .int .i64, .int .i64] 3 := ⟨by kernel_rfl, by kernel_rfl, by kernel_rfl, by kernel_rfl, by kernel_rfl⟩
theorem eqt58 : EqT Try.prog 58 [.int .i64, .int .i64, .int .i64, .int .i64] 4 := ⟨by kernel_rfl, by kernel_rfl, by kernel_rfl, by kernel_rfl, by kernel_rfl⟩
theorem mapt44 : MapT Try.prog 44 .i64 (.int .i64 0) := MapT.of (by kernel_rfl)
theorem fk10 : fnk Try.prog 10 = true := by kernel_rfl
theorem fk11 : fnk Try.prog 11 = true := by kernel_rfl
theorem fk12 : fnk Try.prog 12 = true := by kernel_rfl
theorem fk13 : fnk Try.prog 13 = true := by kernel_rfl
theorem fk14 : fnk Try.prog 14 = true := by kernel_rfl
theorem fk15 : fnk Try.prog 15 = true := by kernel_rfl
theorem fk16 : fnk Try.prog 16 = true := by kernel_rfl
theorem fk17 : fnk Try.prog 17 = true := by kernel_rfl
theorem fk18 : fnk Try.prog 18 = true := by kernel_rfl
theorem fk19 : fnk Try.prog 19 = true := by kernel_rfl
theorem fk20 : fnk Try.prog 20 = true := by kernel_rfl
theorem fk21 : fnk Try.prog 21 = true := by kernel_rfl
theorem fk22 : fnk Try.prog 22 = true := by kernel_rfl
theorem fk23 : fnk Try.prog 23 = true := by kernel_rfl
theorem fk24 : fnk Try.prog 24 = true := by kernel_rfl
theorem fk25 : fnk Try.prog 25 = true := by kernel_rfl
theorem fk26 : fnk Try.prog 26 = true := by kernel_rfl
theorem fk27 : fnk Try.prog 27 = true := by kernel_rfl
theorem fk28 : fnk Try.prog 28 = true := by kernel_rfl
theorem fk29 : fnk Try.prog 29 = true := by kernel_rfl
theorem fk30 : fnk Try.prog 30 = true := by kernel_rfl
theorem fk31 : fnk Try.prog 31 = true := by kernel_rfl
theorem fk32 : fnk Try.prog 32 = true := by kernel_rfl
theorem fk33 : fnk Try.prog 33 = true := by kernel_rfl
theorem fk34 : fnk Try.prog 34 = true := by kernel_rfl
theorem fk35 : fnk Try.prog 35 = true := by kernel_rfl
theorem fk36 : fnk Try.prog 36 = true := by kernel_rfl
theorem mixed : Try.prog.follows .mixedOrders = true := by kernel_rfl
theorem bd6_123 (x1 : Int) (x2 : Int) (x3 : Int) : Try.prog.built 27 [(0, .int .i64 x1), (1, .int .i64 x2), (2, .int .i64 x3)] = some #[.int .i64 x1, .int .i64 x2, .int .i64 x3] := by kernel_rfl
theorem bd7_72  : Try.prog.built 27 [] = some #[.int .i64 0, .int .i64 0, .int .i64 0] := by kernel_rfl
theorem bd9_42  : Try.prog.built 27 [(0, .int .i64 1), (1, .int .i64 36), (2, .int .i64 2)] = some #[.int .i64 1, .int .i64 36, .int .i64 2] := by kernel_rfl
theorem bs9_43 (x1 : Int) (x2 : Int) (x3 : Int) : bltS Try.prog 42 1 [(0, .agg #[.int .i64 x1, .int .i64 x2, .int .i64 x3])] = some (27, [.int .i64 x1, .int .i64 x2, .int .i64 x3]) := by kernel_rfl
theorem bd9_67  : Try.prog.built 58 [(0, .int .i64 1), (1, .int .i64 1), (2, .int .i64 1)] = some #[.int .i64 1, .int .i64 1, .int .i64 1, .int .i64 0] := by kernel_rfl
theorem bd9_68  : Try.prog.built 58 [(0, .int .i64 1), (1, .int .i64 2), (2, .int .i64 2)] = some #[.int .i64 1, .int .i64 2, .int .i64 2, .int .i64 0] := by kernel_rfl
theorem bs9_69 (x4 : Int) (x5 : Int) (x6 : Int) (x7 : Int) (x8 : Int) (x9 : Int) (x10 : Int) (x11 : Int) : bltS Try.prog 30 2 [(0, .agg #[.int .i64 x4, .int .i64 x5, .int .i64 x6, .int .i64 x7]), (1, .agg #[.int .i64 x8, .int .i64 x9, .int .i64 x10, .int .i64 x11])] = some (58, [.int .i64 x4, .int .i64 x5, .int .i64 x6, .int .i64 x7, .int .i64 x8, .int .i64 x9, .int .i64 x10, .int .i64 x11]) := by kernel_rfl
theorem bs11_17 (x1 : Int) : bltS Try.prog 22 1 [(0, .int .i64 x1)] = some (3, [.int .i64 x1]) := by kernel_rfl
theorem bd12_6  : Try.prog.built 62 [(0, .int .i64 2), (1, .int .i64 1)] = some #[.int .i64 2, .int .i64 1] := by kernel_rfl
theorem bd12_7  : Try.prog.built 62 [(0, .int .i64 4), (1, .int .i64 4)] = some #[.int .i64 4, .int .i64 4] := by kernel_rfl
theorem bd12_8  : Try.prog.built 62 [(0, .int .i64 32), (1, .int .i64 32)] = some #[.int .i64 32, .int .i64 32] := by kernel_rfl
theorem bd12_9 (x1 : Int) (x2 : Int) (x3 : Int) (x4 : Int) (x5 : Int) (x6 : Int) : Try.prog.built 63 [(0, .agg #[.int .i64 x1, .int .i64 x2]), (1, .agg #[.int .i64 x3, .int .i64 x4]), (2, .agg #[.int .i64 x5, .int .i64 x6])] = some #[.int .i64 x1, .int .i64 x2, .int .i64 x3, .int .i64 x4, .int .i64 x5, .int .i64 x6] := by kernel_rfl
theorem bd14_9  : Try.prog.built 62 [(0, .int .i64 2), (1, .int .i64 1)] = some #[.int .i64 2, .int .i64 1] := by kernel_rfl
theorem bd14_10  : Try.prog.built 62 [(0, .int .i64 4), (1, .int .i64 2)] = some #[.int .i64 4, .int .i64 2] := by kernel_rfl
theorem bd14_11 (x1 : Int) (x2 : Int) (x3 : Int) (x4 : Int) : Try.prog.built 65 [(0, .agg #[.int .i64 x1, .int .i64 x2]), (1, .agg #[.int .i64 x3, .int .i64 x4])] = some #[.int .i64 x1, .int .i64 x2, .int .i64 x3, .int .i64 x4] := by kernel_rfl
theorem bd14_31 (x5 : Int) (x6 : Int) : Try.prog.built 58 [(0, .int .i64 x5), (1, .int .i64 x6)] = some #[.int .i64 x5, .int .i64 x6, .int .i64 0, .int .i64 0] := by kernel_rfl
theorem bs14_65 (x7 : Int) (x8 : Int) (x9 : Int) (x10 : Int) : bltS Try.prog 30 1 [(0, .agg #[.int .i64 x7, .int .i64 x8, .int .i64 x9, .int .i64 x10])] = some (58, [.int .i64 x7, .int .i64 x8, .int .i64 x9, .int .i64 x10]) := by kernel_rfl
theorem bs16_25  : bltS Try.prog 22 2 [(0, .int .i64 2), (1, .int .i64 4)] = some (3, [.int .i64 2, .int .i64 4]) := by kernel_rfl
theorem bd16_59 (x1 : Int) (x2 : Int) (x3 : Int) : Try.prog.built 58 [(0, .int .i64 x1), (1, .int .i64 x2), (2, .int .i64 x3)] = some #[.int .i64 x1, .int .i64 x2, .int .i64 x3, .int .i64 0] := by kernel_rfl
theorem bs16_60 (x4 : Int) (x5 : Int) (x6 : Int) (x7 : Int) : bltS Try.prog 30 1 [(0, .agg #[.int .i64 x4, .int .i64 x5, .int .i64 x6, .int .i64 x7])] = some (58, [.int .i64 x4, .int .i64 x5, .int .i64 x6, .int .i64 x7]) := by kernel_rfl
theorem bd17_27  : Try.prog.built 27 [(0, .int .i64 1), (2, .int .i64 36)] = some #[.int .i64 1, .int .i64 0, .int .i64 36] := by kernel_rfl
theorem bs17_28 (x1 : Int) (x2 : Int) (x3 : Int) : bltS Try.prog 42 1 [(0, .agg #[.int .i64 x1, .int .i64 x2, .int .i64 x3])] = some (27, [.int .i64 x1, .int .i64 x2, .int .i64 x3]) := by kernel_rfl
theorem bs22_10 (x1 : Int) (x2 : Int) (x3 : Int) : bltS Try.prog 42 1 [(0, .agg #[.int .i64 x1, .int .i64 x2, .int .i64 x3])] = some (27, [.int .i64 x1, .int .i64 x2, .int .i64 x3]) := by kernel_rfl
theorem bd29_36 (x1 : Int) (x2 : Int) (x3 : Int) : Try.prog.built 27 [(0, .int .i64 x1), (1, .int .i64 x2), (2, .int .i64 x3)] = some #[.int .i64 x1, .int .i64 x2, .int .i64 x3] := by kernel_rfl
theorem bs29_37 (x4 : Int) (x5 : Int) (x6 : Int) : bltS Try.prog 42 1 [(0, .agg #[.int .i64 x4, .int .i64 x5, .int .i64 x6])] = some (27, [.int .i64 x4, .int .i64 x5, .int .i64 x6]) := by kernel_rfl
theorem bs31_14  : bltS Try.prog 22 3 [(0, .int .i64 1), (1, .int .i64 8), (2, .int .i64 16)] = some (3, [.int .i64 1, .int .i64 8, .int .i64 16]) := by kernel_rfl
theorem bs32_5  : bltS Try.prog 22 0 [] = some (3, []) := by kernel_rfl
theorem bd37_32 (x1 : Int) (x2 : Int) (x3 : Int) : Try.prog.built 27 [(0, .int .i64 x1), (1, .int .i64 x2), (2, .int .i64 x3)] = some #[.int .i64 x1, .int .i64 x2, .int .i64 x3] := by kernel_rfl
end Fx
end Go.Proofs.Ytkgkfjhfedjnpaa
