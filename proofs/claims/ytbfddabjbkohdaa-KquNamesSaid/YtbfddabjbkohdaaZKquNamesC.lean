/-
  Facts of the seat's program: its types, which functions have a body, what is built. copy(dst, src): dst a part of a slice that is owned. No program is named here. 'and' and 'or' within a region that only reads: their ways meet again. No program is named here. Iterators whose own memory, at the end, tells what they told. No program is named here. Functions of three results. No program is named here.
-/
import Derived.Test.YtbfddabjbkohdaaRows
import Derived.Laws.CopyOwn
import Derived.Test.YtbfddabjbkohdaaZKquNamesB
namespace Go.Proofs.Ytbfddabjbkohdaa
set_option linter.unusedSimpArgs false
set_option linter.unusedVariables false
set_option linter.unnecessarySimpa false
open Go.RX
namespace Fx
theorem ag3 : agk Try.prog 3 = some false := by kernel_rfl
theorem sz3 : szk Try.prog 3 = some 1 := by kernel_rfl
theorem zr3 : zrk Try.prog 3 = some ([.int .i64 0]) := by kernel_rfl
theorem ty3 : tyr Try.prog 3 = some (1, 8, 1) := by kernel_rfl
theorem ag4 : agk Try.prog 4 = some false := by kernel_rfl
theorem sz4 : szk Try.prog 4 = some 1 := by kernel_rfl
theorem zr4 : zrk Try.prog 4 = some ([.bool false]) := by kernel_rfl
theorem sz5 : szk Try.prog 5 = some 1 := by kernel_rfl
theorem zr5 : zrk Try.prog 5 = some ([.int .u8 0]) := by kernel_rfl
theorem ty5 : tyr Try.prog 5 = some (1, 1, 1) := by kernel_rfl
theorem ag22 : agk Try.prog 22 = some false := by kernel_rfl
theorem sz22 : szk Try.prog 22 = some 1 := by kernel_rfl
theorem zr22 : zrk Try.prog 22 = some ([.slice none 0 0]) := by kernel_rfl
theorem ag27 : agk Try.prog 27 = some false := by kernel_rfl
theorem sz27 : szk Try.prog 27 = some 1 := by kernel_rfl
theorem ag38 : agk Try.prog 38 = some false := by kernel_rfl
theorem sz38 : szk Try.prog 38 = some 1 := by kernel_rfl
theorem zr38 : zrk Try.prog 38 = some ([.slice none 0 0]) := by kernel_rfl
theorem ag52 : agk Try.prog 52 = some false := by kernel_rfl
theorem ag57 : agk Try.prog 57 = some true := by kernel_rfl
theorem sz57 : szk Try.prog 57 = some 4 := by kernel_rfl
theorem zr57 : zrk Try.prog 57 = some ([.int .i64 0, .int .i64 0, .int .i64 0, .int .i64 0]) := by kernel_rfl
theorem ty57 : tyr Try.prog 57 = some (4, 32, 4) := by kernel_rfl
theorem ag59 : agk Try.prog 59 = some false := by kernel_rfl
theorem sz59 : szk Try.prog 59 = some 1 := by kernel_rfl
theorem ag62 : agk Try.prog 62 = some false := by kernel_rfl
theorem sz62 : szk Try.prog 62 = some 1 := by kernel_rfl
theorem zr62 : zrk Try.prog 62 = some ([.slice none 0 0]) := by kernel_rfl
theorem ag67 : agk Try.prog 67 = some false := by kernel_rfl
theorem sz67 : szk Try.prog 67 = some 1 := by kernel_rfl
theorem sz69 : szk Try.prog 69 = some 2 := by kernel_rfl
theorem zr69 : zrk Try.prog 69 = some ([.pointer none, .map none]) := by kernel_rfl
theorem ag72 : agk Try.prog 72 = some false := by kernel_rfl
theorem sz72 : szk Try.prog 72 = some 1 := by kernel_rfl
theorem ag75 : agk Try.prog 75 = some true := by kernel_rfl
theorem sz75 : szk Try.prog 75 = some 3 := by kernel_rfl
theorem zr75 : zrk Try.prog 75 = some ([.bool false, .int .i64 0, .int .i64 0]) := by kernel_rfl
theorem ag76 : agk Try.prog 76 = some true := by kernel_rfl
theorem sz76 : szk Try.prog 76 = some 288 := by kernel_rfl
theorem ag77 : agk Try.prog 77 = some false := by kernel_rfl
theorem sz77 : szk Try.prog 77 = some 1 := by kernel_rfl
theorem ag78 : agk Try.prog 78 = some false := by kernel_rfl
theorem sz78 : szk Try.prog 78 = some 1 := by kernel_rfl
theorem sz80 : szk Try.prog 80 = some 294 := by kernel_rfl
theorem ag81 : agk Try.prog 81 = some false := by kernel_rfl
theorem sz81 : szk Try.prog 81 = some 1 := by kernel_rfl
theorem ty81 : tyr Try.prog 81 = some (1, 8, 1) := by kernel_rfl
theorem ag83 : agk Try.prog 83 = some false := by kernel_rfl
theorem sz83 : szk Try.prog 83 = some 1 := by kernel_rfl
theorem ag85 : agk Try.prog 85 = some true := by kernel_rfl
theorem sz85 : szk Try.prog 85 = some 7 := by kernel_rfl
theorem zr85 : zrk Try.prog 85 = some ([.int .i64 0, .int .i64 0, .pointer none, .bool false, .bool false, .int .u64 0, .int .u64 0]) := by kernel_rfl
theorem sz86 : szk Try.prog 86 = some 14 := by kernel_rfl
theorem ag97 : agk Try.prog 97 = some true := by kernel_rfl
theorem sz97 : szk Try.prog 97 = some 7 := by kernel_rfl
theorem zr97 : zrk Try.prog 97 = some ([.bool false, .bool false, .bool false, .bool false, .bool false, .int .u64 0, .int .u64 0]) := by kernel_rfl
theorem ag121 : agk Try.prog 121 = some true := by kernel_rfl
theorem sz121 : szk Try.prog 121 = some 2 := by kernel_rfl
theorem zr121 : zrk Try.prog 121 = some ([.int .i64 0, .int .i64 0]) := by kernel_rfl
theorem ty121 : tyr Try.prog 121 = some (2, 16, 2) := by kernel_rfl
theorem ag123 : agk Try.prog 123 = some true := by kernel_rfl
theorem sz123 : szk Try.prog 123 = some 4 := by kernel_rfl
theorem zr123 : zrk Try.prog 123 = some ([.int .i64 0, .int .i64 0, .bool false, .int .u64 0]) := by kernel_rfl
theorem sz128 : szk Try.prog 128 = some 32 := by kernel_rfl
theorem sz129 : szk Try.prog 129 = some 32 := by kernel_rfl
theorem sz131 : szk Try.prog 131 = some 64 := by kernel_rfl
theorem ag153 : agk Try.prog 153 = some true := by kernel_rfl
theorem sz153 : szk Try.prog 153 = some 2 := by kernel_rfl
theorem zr153 : zrk Try.prog 153 = some ([.int .i64 0, .int .i64 0]) := by kernel_rfl
theorem ty153 : tyr Try.prog 153 = some (2, 16, 2) := by kernel_rfl
theorem sz166 : szk Try.prog 166 = some 6 := by kernel_rfl
theorem eqt57 : EqT Try.prog 57 [.int .i64, .int .i64, .int .i64, .int .i64] 4 := ⟨by kernel_rfl, by kernel_rfl, by kernel_rfl, by kernel_rfl, by kernel_rfl⟩
theorem mapt67 : MapTP Try.prog 67 .i64 (.agg ([.int .i64 0, .int .i64 0, .bool false, .int .u64 0]).toArray) := MapTP.of (by kernel_rfl)
theorem fk8 : fnk Try.prog 8 = true := by kernel_rfl
theorem fk9 : fnk Try.prog 9 = true := by kernel_rfl
theorem fk12 : fnk Try.prog 12 = true := by kernel_rfl
theorem fk15 : fnk Try.prog 15 = true := by kernel_rfl
theorem fk19 : fnk Try.prog 19 = true := by kernel_rfl
theorem fk20 : fnk Try.prog 20 = true := by kernel_rfl
theorem fk21 : fnk Try.prog 21 = true := by kernel_rfl
theorem fk22 : fnk Try.prog 22 = true := by kernel_rfl
theorem fk23 : fnk Try.prog 23 = true := by kernel_rfl
theorem fk24 : fnk Try.prog 24 = true := by kernel_rfl
theorem fk25 : fnk Try.prog 25 = true := by kernel_rfl
theorem fk26 : fnk Try.prog 26 = true := by kernel_rfl
theorem fk27 : fnk Try.prog 27 = true := by kernel_rfl
theorem fk28 : fnk Try.prog 28 = true := by kernel_rfl
theorem fk29 : fnk Try.prog 29 = true := by kernel_rfl
theorem fk30 : fnk Try.prog 30 = true := by kernel_rfl
theorem fk31 : fnk Try.prog 31 = true := by kernel_rfl
theorem fk33 : fnk Try.prog 33 = true := by kernel_rfl
theorem fk34 : fnk Try.prog 34 = true := by kernel_rfl
theorem fk35 : fnk Try.prog 35 = true := by kernel_rfl
theorem fk37 : fnk Try.prog 37 = true := by kernel_rfl
theorem fk39 : fnk Try.prog 39 = true := by kernel_rfl
theorem fk42 : fnk Try.prog 42 = true := by kernel_rfl
theorem fk43 : fnk Try.prog 43 = true := by kernel_rfl
theorem fk46 : fnk Try.prog 46 = true := by kernel_rfl
theorem fk47 : fnk Try.prog 47 = true := by kernel_rfl
theorem fk51 : fnk Try.prog 51 = true := by kernel_rfl
theorem fk52 : fnk Try.prog 52 = true := by kernel_rfl
theorem fk53 : fnk Try.prog 53 = true := by kernel_rfl
theorem fk54 : fnk Try.prog 54 = true := by kernel_rfl
theorem fk55 : fnk Try.prog 55 = true := by kernel_rfl
theorem fk56 : fnk Try.prog 56 = true := by kernel_rfl
theorem fk57 : fnk Try.prog 57 = true := by kernel_rfl
theorem fk58 : fnk Try.prog 58 = true := by kernel_rfl
theorem fk59 : fnk Try.prog 59 = true := by kernel_rfl
theorem fk60 : fnk Try.prog 60 = true := by kernel_rfl
theorem fk61 : fnk Try.prog 61 = true := by kernel_rfl
theorem fk62 : fnk Try.prog 62 = true := by kernel_rfl
theorem fk63 : fnk Try.prog 63 = true := by kernel_rfl
theorem fk64 : fnk Try.prog 64 = true := by kernel_rfl
theorem fk65 : fnk Try.prog 65 = true := by kernel_rfl
theorem fk66 : fnk Try.prog 66 = true := by kernel_rfl
theorem fk67 : fnk Try.prog 67 = true := by kernel_rfl
theorem fk68 : fnk Try.prog 68 = true := by kernel_rfl
theorem fk69 : fnk Try.prog 69 = true := by kernel_rfl
theorem fk70 : fnk Try.prog 70 = true := by kernel_rfl
theorem fk75 : fnk Try.prog 75 = true := by kernel_rfl
theorem fk76 : fnk Try.prog 76 = true := by kernel_rfl
theorem fk81 : fnk Try.prog 81 = true := by kernel_rfl
theorem fk82 : fnk Try.prog 82 = true := by kernel_rfl
theorem fk83 : fnk Try.prog 83 = true := by kernel_rfl
theorem fk84 : fnk Try.prog 84 = true := by kernel_rfl
theorem fk86 : fnk Try.prog 86 = true := by kernel_rfl
theorem fk87 : fnk Try.prog 87 = true := by kernel_rfl
theorem fk88 : fnk Try.prog 88 = true := by kernel_rfl
theorem fk90 : fnk Try.prog 90 = true := by kernel_rfl
theorem fk91 : fnk Try.prog 91 = true := by kernel_rfl
theorem fk92 : fnk Try.prog 92 = true := by kernel_rfl
theorem fk93 : fnk Try.prog 93 = true := by kernel_rfl
theorem fk94 : fnk Try.prog 94 = true := by kernel_rfl
theorem fk95 : fnk Try.prog 95 = true := by kernel_rfl
theorem fk96 : fnk Try.prog 96 = true := by kernel_rfl
theorem fk101 : fnk Try.prog 101 = true := by kernel_rfl
theorem fk102 : fnk Try.prog 102 = true := by kernel_rfl
theorem fk103 : fnk Try.prog 103 = true := by kernel_rfl
theorem fk105 : fnk Try.prog 105 = true := by kernel_rfl
theorem fk106 : fnk Try.prog 106 = true := by kernel_rfl
theorem fk109 : fnk Try.prog 109 = true := by kernel_rfl
theorem fk115 : fnk Try.prog 115 = true := by kernel_rfl
theorem mixed : Try.prog.follows .mixedOrders = true := by kernel_rfl
theorem bs5_30 (x1 : Int) (x2 : Int) (x3 : Int) (x4 : Int) (x5 : Int) (x6 : Int) (x7 : Int) (x8 : Int) : bltS Try.prog 59 2 [(0, .agg #[.int .i64 x1, .int .i64 x2, .int .i64 x3, .int .i64 x4]), (1, .agg #[.int .i64 x5, .int .i64 x6, .int .i64 x7, .int .i64 x8])] = some (57, [.int .i64 x1, .int .i64 x2, .int .i64 x3, .int .i64 x4, .int .i64 x5, .int .i64 x6, .int .i64 x7, .int .i64 x8]) := by kernel_rfl
theorem bs5_32 (x9 : Int) (x10 : Int) (x11 : Int) (x12 : Int) : bltS Try.prog 59 1 [(0, .agg #[.int .i64 x9, .int .i64 x10, .int .i64 x11, .int .i64 x12])] = some (57, [.int .i64 x9, .int .i64 x10, .int .i64 x11, .int .i64 x12]) := by kernel_rfl
theorem bs5_44 (x13 : Int) (x14 : Int) (x15 : Int) (x16 : Int) : bltS Try.prog 59 1 [(0, .agg #[.int .i64 x13, .int .i64 x14, .int .i64 x15, .int .i64 x16])] = some (57, [.int .i64 x13, .int .i64 x14, .int .i64 x15, .int .i64 x16]) := by kernel_rfl
theorem bs5_50 (x17 : Int) (x18 : Int) (x19 : Int) (x20 : Int) : bltS Try.prog 59 1 [(0, .agg #[.int .i64 x17, .int .i64 x18, .int .i64 x19, .int .i64 x20])] = some (57, [.int .i64 x17, .int .i64 x18, .int .i64 x19, .int .i64 x20]) := by kernel_rfl
theorem bs5_65  : bltS Try.prog 22 10 [(0, .int .i64 0), (1, .int .i64 3), (2, .int .i64 5), (3, .int .i64 18), (4, .int .i64 12), (5, .int .i64 16), (6, .int .i64 36), (7, .int .i64 128), (8, .int .i64 (-1)), (9, .int .i64 64)] = some (3, [.int .i64 0, .int .i64 3, .int .i64 5, .int .i64 18, .int .i64 12, .int .i64 16, .int .i64 36, .int .i64 128, .int .i64 (-1), .int .i64 64]) := by kernel_rfl
theorem bs5_76 (x21 : Int) (x22 : Int) (x23 : Int) (x24 : Int) : bltS Try.prog 59 1 [(0, .agg #[.int .i64 x21, .int .i64 x22, .int .i64 x23, .int .i64 x24])] = some (57, [.int .i64 x21, .int .i64 x22, .int .i64 x23, .int .i64 x24]) := by kernel_rfl
theorem bs5_78 (x25 : Int) (x26 : Int) (x27 : Int) (x28 : Int) : bltS Try.prog 59 1 [(0, .agg #[.int .i64 x25, .int .i64 x26, .int .i64 x27, .int .i64 x28])] = some (57, [.int .i64 x25, .int .i64 x26, .int .i64 x27, .int .i64 x28]) := by kernel_rfl
theorem bs5_86 (x29 : Int) (x30 : Int) (x31 : Int) (x32 : Int) : bltS Try.prog 59 1 [(0, .agg #[.int .i64 x29, .int .i64 x30, .int .i64 x31, .int .i64 x32])] = some (57, [.int .i64 x29, .int .i64 x30, .int .i64 x31, .int .i64 x32]) := by kernel_rfl
theorem bs5_88 (x33 : Int) (x34 : Int) (x35 : Int) (x36 : Int) : bltS Try.prog 59 1 [(0, .agg #[.int .i64 x33, .int .i64 x34, .int .i64 x35, .int .i64 x36])] = some (57, [.int .i64 x33, .int .i64 x34, .int .i64 x35, .int .i64 x36]) := by kernel_rfl
theorem bs5_94 (x37 : Int) (x38 : Int) (x39 : Int) (x40 : Int) : bltS Try.prog 59 1 [(0, .agg #[.int .i64 x37, .int .i64 x38, .int .i64 x39, .int .i64 x40])] = some (57, [.int .i64 x37, .int .i64 x38, .int .i64 x39, .int .i64 x40]) := by kernel_rfl
theorem bs5_96 (x41 : Int) (x42 : Int) (x43 : Int) (x44 : Int) : bltS Try.prog 59 1 [(0, .agg #[.int .i64 x41, .int .i64 x42, .int .i64 x43, .int .i64 x44])] = some (57, [.int .i64 x41, .int .i64 x42, .int .i64 x43, .int .i64 x44]) := by kernel_rfl
theorem bs5_102 (x45 : Int) (x46 : Int) (x47 : Int) (x48 : Int) : bltS Try.prog 59 1 [(0, .agg #[.int .i64 x45, .int .i64 x46, .int .i64 x47, .int .i64 x48])] = some (57, [.int .i64 x45, .int .i64 x46, .int .i64 x47, .int .i64 x48]) := by kernel_rfl
theorem bs5_104 (x49 : Int) (x50 : Int) (x51 : Int) (x52 : Int) : bltS Try.prog 59 1 [(0, .agg #[.int .i64 x49, .int .i64 x50, .int .i64 x51, .int .i64 x52])] = some (57, [.int .i64 x49, .int .i64 x50, .int .i64 x51, .int .i64 x52]) := by kernel_rfl
theorem bs5_109 (x53 : Int) (x54 : Int) (x55 : Int) (x56 : Int) : bltS Try.prog 59 1 [(0, .agg #[.int .i64 x53, .int .i64 x54, .int .i64 x55, .int .i64 x56])] = some (57, [.int .i64 x53, .int .i64 x54, .int .i64 x55, .int .i64 x56]) := by kernel_rfl
theorem bs5_118 (x57 : Int) (x58 : Int) (x59 : Int) (x60 : Int) : bltS Try.prog 59 1 [(0, .agg #[.int .i64 x57, .int .i64 x58, .int .i64 x59, .int .i64 x60])] = some (57, [.int .i64 x57, .int .i64 x58, .int .i64 x59, .int .i64 x60]) := by kernel_rfl
theorem bs5_124 (x61 : Int) (x62 : Int) (x63 : Int) (x64 : Int) : bltS Try.prog 59 1 [(0, .agg #[.int .i64 x61, .int .i64 x62, .int .i64 x63, .int .i64 x64])] = some (57, [.int .i64 x61, .int .i64 x62, .int .i64 x63, .int .i64 x64]) := by kernel_rfl
theorem bs5_143 (x65 : Int) (x66 : Int) (x67 : Int) (x68 : Int) : bltS Try.prog 59 1 [(0, .agg #[.int .i64 x65, .int .i64 x66, .int .i64 x67, .int .i64 x68])] = some (57, [.int .i64 x65, .int .i64 x66, .int .i64 x67, .int .i64 x68]) := by kernel_rfl
theorem bs5_149 (x69 : Int) (x70 : Int) (x71 : Int) (x72 : Int) : bltS Try.prog 59 1 [(0, .agg #[.int .i64 x69, .int .i64 x70, .int .i64 x71, .int .i64 x72])] = some (57, [.int .i64 x69, .int .i64 x70, .int .i64 x71, .int .i64 x72]) := by kernel_rfl
theorem bd19_8 (x1 : Option Addr) (x2 : Option Nat) : Try.prog.built 69 [(0, .pointer x1), (1, .map x2)] = some #[.pointer x1, .map x2] := by kernel_rfl
theorem bd21_13 (x1 : Int) (x2 : Int) (x3 : Int) (x4 : Int) : Try.prog.built 57 [(0, .int .i64 x1), (1, .int .i64 x2), (2, .int .i64 x3), (3, .int .i64 x4)] = some #[.int .i64 x1, .int .i64 x2, .int .i64 x3, .int .i64 x4] := by kernel_rfl
theorem bd27_27 (x1 : Int) (x2 : Int) (x3 : Int) : Try.prog.built 57 [(0, .int .i64 x1), (1, .int .i64 x2), (2, .int .i64 x3)] = some #[.int .i64 x1, .int .i64 x2, .int .i64 x3, .int .i64 0] := by kernel_rfl
theorem bs27_28 (x4 : Int) (x5 : Int) (x6 : Int) (x7 : Int) : bltS Try.prog 59 1 [(0, .agg #[.int .i64 x4, .int .i64 x5, .int .i64 x6, .int .i64 x7])] = some (57, [.int .i64 x4, .int .i64 x5, .int .i64 x6, .int .i64 x7]) := by kernel_rfl
theorem bd29_40 (x1 : Int) (x2 : Int) : Try.prog.built 121 [(0, .int .i64 x1), (1, .int .i64 x2)] = some #[.int .i64 x1, .int .i64 x2] := by kernel_rfl
theorem bd30_35 (x1 : Int) (x2 : Int) (x3 : Int) : Try.prog.built 57 [(0, .int .i64 x1), (1, .int .i64 x2), (2, .int .i64 256), (3, .int .i64 x3)] = some #[.int .i64 x1, .int .i64 x2, .int .i64 256, .int .i64 x3] := by kernel_rfl
theorem bs30_36 (x4 : Int) (x5 : Int) (x6 : Int) (x7 : Int) : bltS Try.prog 59 1 [(0, .agg #[.int .i64 x4, .int .i64 x5, .int .i64 x6, .int .i64 x7])] = some (57, [.int .i64 x4, .int .i64 x5, .int .i64 x6, .int .i64 x7]) := by kernel_rfl
theorem bs31_8  : bltS Try.prog 38 1 [(0, .int .u8 97)] = some (5, [.int .u8 97]) := by kernel_rfl
theorem bs31_24 (x1 : Int) (x2 : Int) (x3 : Int) (x4 : Int) (x5 : Int) (x6 : Int) (x7 : Int) (x8 : Int) (x9 : Int) (x10 : Int) (x11 : Int) (x12 : Int) (x13 : Int) (x14 : Int) (x15 : Int) (x16 : Int) : bltS Try.prog 59 4 [(0, .agg #[.int .i64 x1, .int .i64 x2, .int .i64 x3, .int .i64 x4]), (1, .agg #[.int .i64 x5, .int .i64 x6, .int .i64 x7, .int .i64 x8]), (2, .agg #[.int .i64 x9, .int .i64 x10, .int .i64 x11, .int .i64 x12]), (3, .agg #[.int .i64 x13, .int .i64 x14, .int .i64 x15, .int .i64 x16])] = some (57, [.int .i64 x1, .int .i64 x2, .int .i64 x3, .int .i64 x4, .int .i64 x5, .int .i64 x6, .int .i64 x7, .int .i64 x8, .int .i64 x9, .int .i64 x10, .int .i64 x11, .int .i64 x12, .int .i64 x13, .int .i64 x14, .int .i64 x15, .int .i64 x16]) := by kernel_rfl
theorem bs31_27 (x17 : Int) (x18 : Int) (x19 : Int) (x20 : Int) (x21 : Int) (x22 : Int) (x23 : Int) (x24 : Int) : bltS Try.prog 59 2 [(0, .agg #[.int .i64 x17, .int .i64 x18, .int .i64 x19, .int .i64 x20]), (1, .agg #[.int .i64 x21, .int .i64 x22, .int .i64 x23, .int .i64 x24])] = some (57, [.int .i64 x17, .int .i64 x18, .int .i64 x19, .int .i64 x20, .int .i64 x21, .int .i64 x22, .int .i64 x23, .int .i64 x24]) := by kernel_rfl
theorem bs31_33 (x25 : Int) (x26 : Int) (x27 : Int) (x28 : Int) : bltS Try.prog 59 1 [(0, .agg #[.int .i64 x25, .int .i64 x26, .int .i64 x27, .int .i64 x28])] = some (57, [.int .i64 x25, .int .i64 x26, .int .i64 x27, .int .i64 x28]) := by kernel_rfl
theorem bd34_5  : Try.prog.built 88 [] = some #[.int .i64 0, .int .i64 0, .pointer none, .bool false, .bool false, .int .u64 0, .int .u64 0, .int .i64 0, .int .i64 0, .pointer none, .bool false, .bool false, .int .u64 0, .int .u64 0, .bool false, .int .i64 0, .slice none 0 0] := by kernel_rfl
theorem bd39_20  : Try.prog.built 97 [] = some #[.bool false, .bool false, .bool false, .bool false, .bool false, .int .u64 0, .int .u64 0] := by kernel_rfl
theorem bd39_40 (x1 : Int) (x2 : Int) : Try.prog.built 97 [(0, .bool true), (5, .int .u64 x1), (6, .int .u64 x2)] = some #[.bool true, .bool false, .bool false, .bool false, .bool false, .int .u64 x1, .int .u64 x2] := by kernel_rfl
theorem bs54_55  : bltS Try.prog 38 1 [(0, .int .u8 1)] = some (5, [.int .u8 1]) := by kernel_rfl
theorem bs56_12 (x1 : Int) (x2 : Int) : bltS Try.prog 62 1 [(0, .agg #[.int .i64 x1, .int .i64 x2])] = some (153, [.int .i64 x1, .int .i64 x2]) := by kernel_rfl
theorem bs59_25 (x1 : Int) (x2 : Int) : bltS Try.prog 118 1 [(0, .agg #[.int .i64 x1, .int .i64 x2])] = some (121, [.int .i64 x1, .int .i64 x2]) := by kernel_rfl
theorem bd63_16 (x1 : Int) (x2 : Int) : Try.prog.built 121 [(0, .int .i64 x1), (1, .int .i64 x2)] = some #[.int .i64 x1, .int .i64 x2] := by kernel_rfl
theorem bd63_83 (x3 : Int) (x4 : Int) (x5 : Int) : Try.prog.built 123 [(0, .int .i64 x3), (1, .int .i64 x4), (2, .bool true), (3, .int .u64 x5)] = some #[.int .i64 x3, .int .i64 x4, .bool true, .int .u64 x5] := by kernel_rfl
theorem bd64_12 (x1 : Option Addr) (x2 : Nat) (x3 : Nat) : Try.prog.built 166 [(0, .slice x1 x2 x3), (5, .bool true)] = some #[.slice x1 x2 x3, .int .i64 0, .int .i64 0, .int .u64 0, .int .u64 0, .bool true] := by kernel_rfl
theorem bs66_17 (x1 : Int) : bltS Try.prog 22 1 [(0, .int .i64 x1)] = some (3, [.int .i64 x1]) := by kernel_rfl
theorem bd67_36 (x1 : Int) (x2 : Int) : Try.prog.built 75 [(0, .bool true), (1, .int .i64 x1), (2, .int .i64 x2)] = some #[.bool true, .int .i64 x1, .int .i64 x2] := by kernel_rfl
theorem bs67_47 (x3 : Option Addr) : bltS Try.prog 77 1 [(0, .pointer x3)] = some (81, [.pointer x3]) := by kernel_rfl
theorem bd86_20 (x1 : Int) (x2 : Int) : Try.prog.built 57 [(0, .int .i64 x1), (1, .int .i64 x2)] = some #[.int .i64 x1, .int .i64 x2, .int .i64 0, .int .i64 0] := by kernel_rfl
theorem bs89_15 (x1 : Int) (x2 : Int) : bltS Try.prog 22 2 [(0, .int .i64 x1), (1, .int .i64 x2)] = some (3, [.int .i64 x1, .int .i64 x2]) := by kernel_rfl
theorem bs92_5  : bltS Try.prog 59 0 [] = some (57, []) := by kernel_rfl
theorem bs93_10 (x1 : Int) (x2 : Int) (x3 : Int) (x4 : Int) : bltS Try.prog 59 1 [(0, .agg #[.int .i64 x1, .int .i64 x2, .int .i64 x3, .int .i64 x4])] = some (57, [.int .i64 x1, .int .i64 x2, .int .i64 x3, .int .i64 x4]) := by kernel_rfl
theorem bd104_16 (x1 : Int) (x2 : Int) : Try.prog.built 153 [(0, .int .i64 x1), (1, .int .i64 x2)] = some #[.int .i64 x1, .int .i64 x2] := by kernel_rfl
end Fx
end Go.Proofs.Ytbfddabjbkohdaa
namespace Go.RX
set_option linter.unusedSimpArgs false
set_option linter.unusedVariables false
set_option linter.unnecessarySimpa false
section
variable {E : World} {n : Nat} {ds : List Deferred} {st st' : List (Nat × Value)} {L L' : List SP} {r : Option Nat} {P : Program} {Q : Exit → Act → World → Prop} {ops : Array Oper} {rest : List Oper}
variable {d : Nat} {ty t t2 : TypeId} {pos : String} {af : Array Edge} {x y : Operand} {v : Value} {k : IntKind}
theorem Hd.copyOwn {e bytes m cap q dl dc sl sc : Nat} {ad sad : Option Addr} {us vs : List Value} (ht : P.underlying t = some (.slice e)) (hi : tyr P e = some (1, bytes, 1))
    (hx : evo st x = some (.slice (cutA ad 1 q cap) dl dc)) (hy : evo st y = some (.slice sad sl sc)) (hp : Pick L (own e 1 ad m cap us) L') (hR : RdS L 1 sad sl vs) (hq : q + dl ≤ m) (h1 : ∀ u ∈ vs, u.oneCell' = true)
    (K : Hd E n ds ((d, .int .i64 ((min sl dl : Nat) : Int)) :: st) (own e 1 ad m cap (us.take q ++ vs.take (min sl dl) ++ us.drop (q + min sl dl)) :: L') (LW r P ops Q rest)) (hd : d < n := by decide) :
    Hd E n ds st L (LW r P ops Q (⟨some d, .call ⟨.builtin .copy, #[x, y], #[t, t2]⟩, ty, pos, af, none⟩ :: rest)) :=
  Hd.op rfl (by simp) fun a w f s => by
    obtain ⟨ti, zv, h1', h2', h3', h4', h5'⟩ := tyr_parts hi
    have hsz : (P.info? e).map (·.size) = some 1 := by rw [h1']; simp [h3']
    obtain ⟨hvl, hsrc⟩ := hR _ s.2.2.2
    have s' : Sat E (own e 1 ad m cap us :: L') w := s.mp fun _ k => hp.sep k
    obtain ⟨hos, htp, hou, k1, k2, dd, s1, s2, ⟨hul, hv⟩, hL⟩ := s'
    by_cases h0 : min sl dl = 0
    · refine ⟨.int .i64 0, w, ?_, ?_⟩
      · have hrun := run_copy_none (P := P) w t t2 ty e (cutA ad 1 q cap) sad dl dc sl sc ht hsz h0
        simp only [execOp, resolve, List.map_toArray, List.map_cons, List.map_nil, f.ev hx, f.ev hy, invoke, builtin, Sem.run_bind, Sem.run_pure, Result.andThen_ok, hrun]
        rfl
      · rw [h0] at K
        refine K _ _ (f.put hd _) ⟨hos, htp, hou, k1, k2, dd, s1, s2, ?_, hL⟩
        simpa using ⟨hul, hv⟩
    · have hds : dl ≠ 0 := fun h => h0 (by rw [h]; simp)
      have hsl : sl ≠ 0 := fun h => h0 (by rw [h]; simp)
      rcases hv with ⟨rfl, rfl⟩ | ⟨b, off, sp, rfl, hmc, hcm, hsp, hpt⟩
      · omega
      have hA : cutA (some ⟨b, off, none⟩) 1 q cap = some ⟨b, off + q, none⟩ := by
        unfold cutA; rw [if_neg (by omega)]; simp [add_flat]
      obtain ⟨sb, so, rfl, hsc⟩ : ∃ sb so, sad = some ⟨sb, so, none⟩ ∧ ∀ j v, vs[j]? = some v → w.cell? ⟨sb, so + j, none⟩ = some v := by
        rcases hsrc with h | ⟨sb, so, e, hc⟩
        · omega
        · exact ⟨sb, so, e, fun j v hj => by obtain ⟨_, hb⟩ := hc j v hj; exact cell_hp hb⟩
      have hnl : (vs.take (min sl dl)).length = min sl dl * 1 := by rw [List.length_take, hvl]; omega
      have hf := run_firstCells_some (P := P) w 1 (min sl dl) ⟨sb, so, none⟩ sl sc (vs.take (min sl dl)) hnl (fun j v hj => by
        rw [add_flat]
        refine hsc j v ?_
        have hj2 := (List.getElem?_eq_some_iff.1 hj).1
        rw [List.length_take] at hj2
        rwa [List.getElem?_take_of_lt (by omega)] at hj)
      have s0 : Sat E (seg b off (us ++ sp) :: L') w := ⟨hos, htp, hou, k1, k2, dd, s1, s2, hpt, hL⟩
      have hul' : us.length = m := by omega
      obtain ⟨w', hst, s''⟩ := Sat.storeSeg (P := P) (q := q) (vs := vs.take (min sl dl)) s0 (by rw [List.length_append, hnl]; omega) (by rw [List.length_append]; omega) (fun u hu => h1 u (List.mem_of_mem_take hu))
      refine ⟨.int .i64 ((min sl dl : Nat) : Int), w', ?_, K _ _ (f.put hd _) (s''.mp fun h hh => sep_head hh fun k x => ?_)⟩
      · have hun : (Builtin.copy_ #[t, t2] ty #[.slice (some ⟨b, off + q, none⟩) dl dc, .slice (some ⟨sb, so, none⟩) sl sc]).run P w = .ok (goInt (min sl dl : Nat)) w' := by
          have hm : Nat.min sl dl = min sl dl := rfl
          simp [Builtin.copy_, run_underlying ht, sizeOf, typeInfo, h1', Builtin.lenOf, h3', hm, hf, hst]
        rw [hA] at hx
        simp only [execOp, resolve, List.map_toArray, List.map_cons, List.map_nil, f.ev hx, f.ev hy, invoke, builtin, Sem.run_bind, Sem.run_pure, Result.andThen_ok, hun]
        rfl
      · rw [hnl, Nat.mul_one] at x
        have htot : (us.take q ++ vs.take (min sl dl) ++ us.drop (q + min sl dl)).length = m * 1 := by
          simp only [List.length_append, List.length_take, List.length_drop, hul', hvl]; omega
        refine ⟨htot, .inr ⟨b, off, sp, rfl, hmc, hcm, hsp, ?_⟩⟩
        rw [List.take_append_of_le_length (by omega), List.drop_append_of_le_length (by omega)] at x
        simpa only [List.append_assoc] using x
end
end Go.RX
namespace Go.RX
set_option linter.unusedSimpArgs false
set_option linter.unusedVariables false
set_option linter.unnecessarySimpa false
section
variable {P : Program} {E : World} {n : Nat} {ds : List Deferred} {st : List (Nat × Value)} {L : List SP} {ops : Array Oper} {C : World → Prop} {Kq : Act → Prop} {p : Bool}
theorem wpQuiet_append {l2 : List Oper} : ∀ {l1 : List Oper} {a : Act}, wpQuiet P ops C (fun a' => wpQuiet P ops C Kq l2 a') l1 a → wpQuiet P ops C Kq (l1 ++ l2) a
  | [], _, h => h
  | o :: r, a, h => by
    simp only [List.cons_append]
    unfold wpQuiet at h ⊢
    split
    · rename_i hw
      rw [if_pos hw] at h
      obtain ⟨v, h1, h2⟩ := h
      exact ⟨v, h1, wpQuiet_append h2⟩
    · rename_i hw
      rw [if_neg hw] at h
      exact wpQuiet_append h
theorem Hq.andg {l : List Oper} (m gd dd : Nat) (sk : List (Nat × Value)) {q : Bool} (hv : look st gd = some (.bool p)) (_hk : sub st sk)
    (hT : p = true → Hq n ds ((gd, .bool true) :: st) (QW P ops C (fun a => Fr n ds ((dd, .bool q) :: sk) a) (l.take m)))
    (hF : p = false → Hq n ds ((gd, .bool false) :: st) (QW P ops C (fun a => Fr n ds ((dd, .bool false) :: sk) a) (l.take m)))
    (K : Hq n ds ((dd, .bool (p && q)) :: sk) (QW P ops C Kq (l.drop m))) : Hq n ds st (QW P ops C Kq l) := fun a f => by
  have h : wpQuiet P ops C (fun a' => wpQuiet P ops C Kq (l.drop m) a') (l.take m) a := by
    have h1 : wpQuiet P ops C (fun a => Fr n ds ((dd, .bool (p && q)) :: sk) a) (l.take m) a :=
      (Hq.part hv (fun hp => by subst hp; exact hT rfl) (fun hp => by subst hp; exact hF rfl) : Hq n ds st (QW P ops C (fun a => Fr n ds ((dd, .bool (p && q)) :: sk) a) (l.take m))) a f
    exact wpQuiet_mono' h1 fun a f => K a f
  have := wpQuiet_append h
  rwa [List.take_append_drop] at this
where
  wpQuiet_mono' {K1 K2 : Act → Prop} : ∀ {l : List Oper} {a : Act}, wpQuiet P ops C K1 l a → (∀ a, K1 a → K2 a) → wpQuiet P ops C K2 l a
    | [], _, h, hk => hk _ h
    | o :: r, a, h, hk => by
      unfold wpQuiet at h ⊢
      split
      · rename_i hw
        rw [if_pos hw] at h
        obtain ⟨v, h1, h2⟩ := h
        exact ⟨v, h1, wpQuiet_mono' h2 hk⟩
      · rename_i hw
        rw [if_neg hw] at h
        exact wpQuiet_mono' h hk
theorem Hq.org {l : List Oper} (m gd dd : Nat) (sk : List (Nat × Value)) {q : Bool} (hv : look st gd = some (.bool p)) (_hk : sub st sk)
    (hT : p = true → Hq n ds ((gd, .bool true) :: st) (QW P ops C (fun a => Fr n ds ((dd, .bool true) :: sk) a) (l.take m)))
    (hF : p = false → Hq n ds ((gd, .bool false) :: st) (QW P ops C (fun a => Fr n ds ((dd, .bool q) :: sk) a) (l.take m)))
    (K : Hq n ds ((dd, .bool (p || q)) :: sk) (QW P ops C Kq (l.drop m))) : Hq n ds st (QW P ops C Kq l) := fun a f => by
  have h : wpQuiet P ops C (fun a' => wpQuiet P ops C Kq (l.drop m) a') (l.take m) a := by
    have h1 : wpQuiet P ops C (fun a => Fr n ds ((dd, .bool (p || q)) :: sk) a) (l.take m) a :=
      (Hq.part hv (fun hp => by subst hp; exact hT rfl) (fun hp => by subst hp; exact hF rfl) : Hq n ds st (QW P ops C (fun a => Fr n ds ((dd, .bool (p || q)) :: sk) a) (l.take m))) a f
    exact Hq.andg.wpQuiet_mono' h1 fun a f => K a f
  have := wpQuiet_append h
  rwa [List.take_append_drop] at this
theorem Hq.mend {st' : List (Nat × Value)} (hs : sub st st') : Hq n ds st (QW P ops C (fun a => Fr n ds st' a) []) := fun _ f => f.sub hs
end
end Go.RX
namespace Go.RX
set_option linter.unusedSimpArgs false
set_option linter.unusedVariables false
set_option linter.unnecessarySimpa false
section
variable {E : World} {n : Nat} {ds : List Deferred} {st st' : List (Nat × Value)} {L L' : List SP} {r : Option Nat} {P : Program} {Q : Exit → Act → World → Prop} {ops : Array Oper} {rest : List Oper}
variable {d : Nat} {ty t t2 : TypeId} {pos : String} {af : Array Edge} {g : Option (Nat × Bool)} {x y z : Operand} {v u : Value} {k : IntKind} {p q : Bool}
theorem sep_right {M N N' : List SP} {k : PH} (h : ∀ k, sep N k → sep N' k) (s : sep (M ++ N) k) : sep (M ++ N') k := by
  obtain ⟨h1, h2, d, s1, s2, x, y⟩ := sep_append s
  exact sep_join d s1 s2 x (h _ y)
end
end Go.RX
namespace Go.RX
set_option linter.unusedSimpArgs false
set_option linter.unusedVariables false
set_option linter.unnecessarySimpa false
section
variable {P : Program} {E : World} {n : Nat} {ds : List Deferred} {st : List (Nat × Value)} {L L' : List SP}
theorem results_ctt {fn : Func} {ta tb tc : Nat} {t : TypeId} {b o : Nat} {us : List Value} {tmps : Array Value} {v u : Value} {w : World} (hr : fn.results = #[.cell ta t, .tmp tb, .tmp tc]) (ha : agk P t = some true) (hx : tmps.getD ta undef = .pointer (some ⟨b, o, none⟩)) (hv : tmps.getD tb undef = v) (hu : tmps.getD tc undef = u)
    (hR : Rd L b o us) (hz : szk P t = some us.length) (s : Sat E L w) : (results fn tmps).run P w = .ok (.tuple #[.agg us.toArray, v, u]) w := by
  have hc : (loadCells ⟨b, o, none⟩ us.length).run P w = .ok us.toArray w := run_loadCells_list w _ us fun j v e => by
    have := hR.cell s e
    unfold Addr.add
    split
    · rename_i h0; subst h0; simpa using this
    · exact this
  have hl : (loadVar t ⟨b, o, none⟩).run P w = .ok (.agg us.toArray) w := by
    simp only [loadVar, Sem.run_bind, run_isAgg ha, Result.andThen, if_true, run_sizeOf' hz, hc]
    rfl
  have hx2 : tmps[ta]?.getD undef = .pointer (some ⟨b, o, none⟩) := by simpa using hx
  have hv2 : tmps[tb]?.getD undef = v := by simpa using hv
  have hu2 : tmps[tc]?.getD undef = u := by simpa using hu
  simp [results, hr, hx2, hv2, hu2, asAddr, hl]
theorem Hd.retCTT {fn : Func} {ta tb tc : Nat} {t : TypeId} {b o : Nat} {us : List Value} {v u : Value} {ι : Type} {val : ι → Value} {post : ι → List SP} (hr : fn.results = #[.cell ta t, .tmp tb, .tmp tc]) (i : ι) (ha : agk P t = some true) (hx : look st ta = some (.pointer (some ⟨b, o, none⟩))) (hv : look st tb = some v) (hu : look st tc = some u)
    (hR : Rd L b o us) (hz : szk P t = some us.length) (hi : val i = .tuple #[.agg us.toArray, v, u]) (hl : ∀ k, sep L k → sep (post i) k) :
    Hd E n [] st L ((bodyPost P fn fun e w' => ∃ i, e = .returned (val i) ∧ Sat E (post i) w') .ret) := fun a w f s =>
  bodyPost_ret (results_ctt (v := v) (u := u) hr ha (by simp [f.at_ ta _ hx]) (by simp [f.at_ tb _ hv]) (by simp [f.at_ tc _ hu]) hR hz s) f.defs ⟨i, by rw [hi], s.mp hl⟩
theorem results_3 {fn : Func} {ta tb tc : Nat} {tmps : Array Value} {v1 v u : Value} {w : World} (hr : fn.results = #[.tmp ta, .tmp tb, .tmp tc]) (hx : tmps.getD ta undef = v1) (hv : tmps.getD tb undef = v) (hu : tmps.getD tc undef = u) : (results fn tmps).run P w = .ok (.tuple #[v1, v, u]) w := by
  have hx2 : tmps[ta]?.getD undef = v1 := by simpa using hx
  have hv2 : tmps[tb]?.getD undef = v := by simpa using hv
  have hu2 : tmps[tc]?.getD undef = u := by simpa using hu
  simp [results, hr, hx2, hv2, hu2]
theorem Hd.ret3 {fn : Func} {ta tb tc : Nat} {v1 v u : Value} {ι : Type} {val : ι → Value} {post : ι → List SP} (hr : fn.results = #[.tmp ta, .tmp tb, .tmp tc]) (i : ι) (hx : look st ta = some v1) (hv : look st tb = some v) (hu : look st tc = some u) (hi : val i = .tuple #[v1, v, u]) (hl : ∀ k, sep L k → sep (post i) k) :
    Hd E n [] st L ((bodyPost P fn fun e w' => ∃ i, e = .returned (val i) ∧ Sat E (post i) w') .ret) := fun a w f s =>
  bodyPost_ret (results_3 (v1 := v1) (v := v) (u := u) hr (by simp [f.at_ ta _ hx]) (by simp [f.at_ tb _ hv]) (by simp [f.at_ tc _ hu])) f.defs ⟨i, by rw [hi], s.mp hl⟩
end
section
variable {E : World} {n : Nat} {ds : List Deferred} {st : List (Nat × Value)} {L : List SP} {P : Program}
variable {d : Nat} {ty t : TypeId} {pos : String} {af : Array Edge} {g : Option (Nat × Bool)} {x : Operand} {v : Value}
theorem y_fieldv1 {fs : Array Field} {i q ft : Nat} {cs : List Value} (hu : P.underlying t = some (.struct fs)) (hf : (fs[i]?).map (fun f => (f.offset, f.type)) = some (q, ft)) (ha : agk P ft = some false) (hx : evo st x = some (.agg cs.toArray)) (hc : cs[q]? = some v) :
    Yv E n ds st L P ⟨some d, .field t x i, ty, pos, af, g⟩ v := fun a w f _ => by
  cases hfi : fs[i]? with
  | none => rw [hfi] at hf; cases hf
  | some fl =>
    rw [hfi] at hf
    obtain ⟨rfl, rfl⟩ := Prod.mk.inj (Option.some.inj hf)
    simp only [execOp, f.ev hx]
    simp only [Instr.field, Sem.run_bind, run_underlying hu, Result.andThen, hfi]
    simp [asAgg, run_part1 (P := P) (cs := cs.toArray) ha (by simpa using hc)]
end
end Go.RX
