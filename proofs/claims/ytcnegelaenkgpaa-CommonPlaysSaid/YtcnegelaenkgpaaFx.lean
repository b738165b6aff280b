/-
  Facts of the seat's program: its types, which functions have a body, what is built.
-/
import Derived.Test.YtcnegelaenkgpaaRows
import Derived.Test.YtcnegelaenkgpaaRxA
import Derived.Test.YtcnegelaenkgpaaRxS
import Derived.Test.YtcnegelaenkgpaaRxP
import Derived.Test.YtcnegelaenkgpaaRxH
import Derived.Test.YtcnegelaenkgpaaRxM
namespace Go.Proofs.Ytcnegelaenkgpaa
set_option linter.unusedSimpArgs false
set_option linter.unusedVariables false
set_option linter.unnecessarySimpa false
open Go.RX
namespace Fx
theorem ag3 : agk Try.prog 3 = some false := by kernel_rfl
theorem sz3 : szk Try.prog 3 = some 1 := by kernel_rfl
theorem zr3 : zrk Try.prog 3 = some ([.int .i64 0]) := by kernel_rfl
theorem ty3 : tyr Try.prog 3 = some (1, 8, 1) := by kernel_rfl
theorem ag4 : agk Try.prog 4 = some false := by kernel_rfl
theorem sz4 : szk Try.prog 4 = some 1 := by kernel_rfl
theorem zr4 : zrk Try.prog 4 = some ([.bool false]) := by kernel_rfl
theorem ty4 : tyr Try.prog 4 = some (1, 1, 1) := by kernel_rfl
theorem ag5 : agk Try.prog 5 = some false := by kernel_rfl
theorem sz5 : szk Try.prog 5 = some 1 := by kernel_rfl
theorem zr5 : zrk Try.prog 5 = some ([.int .u8 0]) := by kernel_rfl
theorem ty5 : tyr Try.prog 5 = some (1, 1, 1) := by kernel_rfl
theorem ag9 : agk Try.prog 9 = some false := by kernel_rfl
theorem sz9 : szk Try.prog 9 = some 1 := by kernel_rfl
theorem zr9 : zrk Try.prog 9 = some ([.string ⟨#[]⟩]) := by kernel_rfl
theorem ty9 : tyr Try.prog 9 = some (1, 16, 1) := by kernel_rfl
theorem ag22 : agk Try.prog 22 = some false := by kernel_rfl
theorem sz22 : szk Try.prog 22 = some 1 := by kernel_rfl
theorem zr22 : zrk Try.prog 22 = some ([.slice none 0 0]) := by kernel_rfl
theorem ty22 : tyr Try.prog 22 = some (1, 24, 1) := by kernel_rfl
theorem ag24 : agk Try.prog 24 = some false := by kernel_rfl
theorem sz24 : szk Try.prog 24 = some 1 := by kernel_rfl
theorem zr24 : zrk Try.prog 24 = some ([.pointer none]) := by kernel_rfl
theorem ty24 : tyr Try.prog 24 = some (1, 8, 1) := by kernel_rfl
theorem ag26 : agk Try.prog 26 = some false := by kernel_rfl
theorem sz26 : szk Try.prog 26 = some 1 := by kernel_rfl
theorem zr26 : zrk Try.prog 26 = some ([.map none]) := by kernel_rfl
theorem ty26 : tyr Try.prog 26 = some (1, 8, 1) := by kernel_rfl
theorem ag27 : agk Try.prog 27 = some false := by kernel_rfl
theorem sz27 : szk Try.prog 27 = some 1 := by kernel_rfl
theorem zr27 : zrk Try.prog 27 = some ([.int .i64 0]) := by kernel_rfl
theorem ty27 : tyr Try.prog 27 = some (1, 8, 1) := by kernel_rfl
theorem ag29 : agk Try.prog 29 = some false := by kernel_rfl
theorem sz29 : szk Try.prog 29 = some 1 := by kernel_rfl
theorem zr29 : zrk Try.prog 29 = some ([.int .u64 0]) := by kernel_rfl
theorem ty29 : tyr Try.prog 29 = some (1, 8, 1) := by kernel_rfl
theorem ag31 : agk Try.prog 31 = some true := by kernel_rfl
theorem sz31 : szk Try.prog 31 = some 3 := by kernel_rfl
theorem zr31 : zrk Try.prog 31 = some ([.int .i64 0, .int .u64 0, .int .u64 0]) := by kernel_rfl
theorem ty31 : tyr Try.prog 31 = some (3, 24, 3) := by kernel_rfl
theorem ag46 : agk Try.prog 46 = some false := by kernel_rfl
theorem sz46 : szk Try.prog 46 = some 1 := by kernel_rfl
theorem zr46 : zrk Try.prog 46 = some ([.slice none 0 0]) := by kernel_rfl
theorem ty46 : tyr Try.prog 46 = some (1, 24, 1) := by kernel_rfl
theorem ag47 : agk Try.prog 47 = some false := by kernel_rfl
theorem sz47 : szk Try.prog 47 = some 1 := by kernel_rfl
theorem zr47 : zrk Try.prog 47 = some ([.pointer none]) := by kernel_rfl
theorem ty47 : tyr Try.prog 47 = some (1, 8, 1) := by kernel_rfl
theorem ag49 : agk Try.prog 49 = some true := by kernel_rfl
theorem sz49 : szk Try.prog 49 = some 1 := by kernel_rfl
theorem zr49 : zrk Try.prog 49 = some ([.slice none 0 0]) := by kernel_rfl
theorem ty49 : tyr Try.prog 49 = some (1, 24, 1) := by kernel_rfl
theorem ag51 : agk Try.prog 51 = some true := by kernel_rfl
theorem sz51 : szk Try.prog 51 = some 4 := by kernel_rfl
theorem zr51 : zrk Try.prog 51 = some ([.int .i64 0, .int .i64 0, .int .u64 0, .int .u64 0]) := by kernel_rfl
theorem ty51 : tyr Try.prog 51 = some (4, 32, 4) := by kernel_rfl
theorem ag56 : agk Try.prog 56 = some true := by kernel_rfl
theorem sz56 : szk Try.prog 56 = some 3 := by kernel_rfl
theorem zr56 : zrk Try.prog 56 = some ([.slice none 0 0, .map none, .bool false]) := by kernel_rfl
theorem ty56 : tyr Try.prog 56 = some (3, 40, 3) := by kernel_rfl
theorem ag57 : agk Try.prog 57 = some false := by kernel_rfl
theorem sz57 : szk Try.prog 57 = some 1 := by kernel_rfl
theorem zr57 : zrk Try.prog 57 = some ([.slice none 0 0]) := by kernel_rfl
theorem ty57 : tyr Try.prog 57 = some (1, 24, 1) := by kernel_rfl
theorem ag58 : agk Try.prog 58 = some false := by kernel_rfl
theorem sz58 : szk Try.prog 58 = some 1 := by kernel_rfl
theorem zr58 : zrk Try.prog 58 = some ([.slice none 0 0]) := by kernel_rfl
theorem ty58 : tyr Try.prog 58 = some (1, 24, 1) := by kernel_rfl
theorem ag59 : agk Try.prog 59 = some false := by kernel_rfl
theorem sz59 : szk Try.prog 59 = some 1 := by kernel_rfl
theorem zr59 : zrk Try.prog 59 = some ([.pointer none]) := by kernel_rfl
theorem ty59 : tyr Try.prog 59 = some (1, 8, 1) := by kernel_rfl
theorem ag63 : agk Try.prog 63 = some true := by kernel_rfl
theorem sz63 : szk Try.prog 63 = some 4 := by kernel_rfl
theorem zr63 : zrk Try.prog 63 = some ([.int .i64 0, .int .i64 0, .int .u64 0, .int .u64 0]) := by kernel_rfl
theorem ty63 : tyr Try.prog 63 = some (4, 32, 4) := by kernel_rfl
theorem ag66 : agk Try.prog 66 = some false := by kernel_rfl
theorem sz66 : szk Try.prog 66 = some 1 := by kernel_rfl
theorem zr66 : zrk Try.prog 66 = some ([.pointer none]) := by kernel_rfl
theorem ty66 : tyr Try.prog 66 = some (1, 8, 1) := by kernel_rfl
theorem ag67 : agk Try.prog 67 = some false := by kernel_rfl
theorem sz67 : szk Try.prog 67 = some 1 := by kernel_rfl
theorem zr67 : zrk Try.prog 67 = some ([.slice none 0 0]) := by kernel_rfl
theorem ty67 : tyr Try.prog 67 = some (1, 24, 1) := by kernel_rfl
theorem ag69 : agk Try.prog 69 = some true := by kernel_rfl
theorem sz69 : szk Try.prog 69 = some 4 := by kernel_rfl
theorem zr69 : zrk Try.prog 69 = some ([.slice none 0 0, .slice none 0 0, .slice none 0 0, .int .u64 0]) := by kernel_rfl
theorem ty69 : tyr Try.prog 69 = some (4, 80, 4) := by kernel_rfl
theorem ag72 : agk Try.prog 72 = some false := by kernel_rfl
theorem sz72 : szk Try.prog 72 = some 1 := by kernel_rfl
theorem zr72 : zrk Try.prog 72 = some ([.slice none 0 0]) := by kernel_rfl
theorem ty72 : tyr Try.prog 72 = some (1, 24, 1) := by kernel_rfl
theorem ag73 : agk Try.prog 73 = some false := by kernel_rfl
theorem sz73 : szk Try.prog 73 = some 1 := by kernel_rfl
theorem zr73 : zrk Try.prog 73 = some ([.int .u16 0]) := by kernel_rfl
theorem ty73 : tyr Try.prog 73 = some (1, 2, 1) := by kernel_rfl
theorem ag79 : agk Try.prog 79 = some false := by kernel_rfl
theorem sz79 : szk Try.prog 79 = some 1 := by kernel_rfl
theorem zr79 : zrk Try.prog 79 = some ([.nilFunc]) := by kernel_rfl
theorem ty79 : tyr Try.prog 79 = some (1, 8, 1) := by kernel_rfl
theorem ag81 : agk Try.prog 81 = some false := by kernel_rfl
theorem sz81 : szk Try.prog 81 = some 1 := by kernel_rfl
theorem zr81 : zrk Try.prog 81 = some ([.nilFunc]) := by kernel_rfl
theorem ty81 : tyr Try.prog 81 = some (1, 8, 1) := by kernel_rfl
theorem ag86 : agk Try.prog 86 = some false := by kernel_rfl
theorem sz86 : szk Try.prog 86 = some 1 := by kernel_rfl
theorem zr86 : zrk Try.prog 86 = some ([.slice none 0 0]) := by kernel_rfl
theorem ty86 : tyr Try.prog 86 = some (1, 24, 1) := by kernel_rfl
theorem ag88 : agk Try.prog 88 = some true := by kernel_rfl
theorem sz88 : szk Try.prog 88 = some 4 := by kernel_rfl
theorem zr88 : zrk Try.prog 88 = some ([.pointer none, .slice none 0 0, .map none, .int .u64 0]) := by kernel_rfl
theorem ty88 : tyr Try.prog 88 = some (4, 48, 4) := by kernel_rfl
theorem ag90 : agk Try.prog 90 = some false := by kernel_rfl
theorem sz90 : szk Try.prog 90 = some 1 := by kernel_rfl
theorem zr90 : zrk Try.prog 90 = some ([.pointer none]) := by kernel_rfl
theorem ty90 : tyr Try.prog 90 = some (1, 8, 1) := by kernel_rfl
theorem ag92 : agk Try.prog 92 = some true := by kernel_rfl
theorem sz92 : szk Try.prog 92 = some 2 := by kernel_rfl
theorem zr92 : zrk Try.prog 92 = some ([.int .u64 0, .slice none 0 0]) := by kernel_rfl
theorem ty92 : tyr Try.prog 92 = some (2, 32, 2) := by kernel_rfl
theorem ag93 : agk Try.prog 93 = some false := by kernel_rfl
theorem sz93 : szk Try.prog 93 = some 1 := by kernel_rfl
theorem zr93 : zrk Try.prog 93 = some ([.nilFunc]) := by kernel_rfl
theorem ty93 : tyr Try.prog 93 = some (1, 8, 1) := by kernel_rfl
theorem ag100 : agk Try.prog 100 = some false := by kernel_rfl
theorem sz100 : szk Try.prog 100 = some 1 := by kernel_rfl
theorem zr100 : zrk Try.prog 100 = some ([.nilFunc]) := by kernel_rfl
theorem ty100 : tyr Try.prog 100 = some (1, 8, 1) := by kernel_rfl
theorem ag106 : agk Try.prog 106 = some false := by kernel_rfl
theorem sz106 : szk Try.prog 106 = some 1 := by kernel_rfl
theorem zr106 : zrk Try.prog 106 = some ([.int .u64 0]) := by kernel_rfl
theorem ty106 : tyr Try.prog 106 = some (1, 8, 1) := by kernel_rfl
theorem ag110 : agk Try.prog 110 = some false := by kernel_rfl
theorem sz110 : szk Try.prog 110 = some 1 := by kernel_rfl
theorem zr110 : zrk Try.prog 110 = some ([.int .i64 0]) := by kernel_rfl
theorem ty110 : tyr Try.prog 110 = some (1, 8, 1) := by kernel_rfl
theorem ag117 : agk Try.prog 117 = some false := by kernel_rfl
theorem sz117 : szk Try.prog 117 = some 1 := by kernel_rfl
theorem zr117 : zrk Try.prog 117 = some ([.int .u32 0]) := by kernel_rfl
theorem ty117 : tyr Try.prog 117 = some (1, 4, 1) := by kernel_rfl
theorem ag118 : agk Try.prog 118 = some false := by kernel_rfl
theorem sz118 : szk Try.prog 118 = some 1 := by kernel_rfl
theorem zr118 : zrk Try.prog 118 = some ([.int .u64 0]) := by kernel_rfl
theorem ty118 : tyr Try.prog 118 = some (1, 8, 1) := by kernel_rfl
theorem ag122 : agk Try.prog 122 = some false := by kernel_rfl
theorem sz122 : szk Try.prog 122 = some 1 := by kernel_rfl
theorem zr122 : zrk Try.prog 122 = some ([.pointer none]) := by kernel_rfl
theorem ty122 : tyr Try.prog 122 = some (1, 8, 1) := by kernel_rfl
theorem eqt31 : EqT Try.prog 31 [.int .i64, .int .u64, .int .u64] 3 := ⟨by kernel_rfl, by kernel_rfl, by kernel_rfl, by kernel_rfl, by kernel_rfl⟩
theorem mapt26 : MapT Try.prog 26 .i64 (.int .i64 0) := MapT.of (by kernel_rfl)
theorem fk16 : fnk Try.prog 16 = true := by kernel_rfl
theorem fk17 : fnk Try.prog 17 = true := by kernel_rfl
theorem fk18 : fnk Try.prog 18 = true := by kernel_rfl
theorem fk19 : fnk Try.prog 19 = true := by kernel_rfl
theorem fk20 : fnk Try.prog 20 = true := by kernel_rfl
theorem fk21 : fnk Try.prog 21 = true := by kernel_rfl
theorem fk22 : fnk Try.prog 22 = true := by kernel_rfl
theorem fk23 : fnk Try.prog 23 = true := by kernel_rfl
theorem fk24 : fnk Try.prog 24 = true := by kernel_rfl
theorem fk25 : fnk Try.prog 25 = true := by kernel_rfl
theorem fk26 : fnk Try.prog 26 = true := by kernel_rfl
theorem fk27 : fnk Try.prog 27 = true := by kernel_rfl
theorem fk28 : fnk Try.prog 28 = true := by kernel_rfl
theorem fk29 : fnk Try.prog 29 = true := by kernel_rfl
theorem fk30 : fnk Try.prog 30 = true := by kernel_rfl
theorem fk31 : fnk Try.prog 31 = true := by kernel_rfl
theorem fk32 : fnk Try.prog 32 = true := by kernel_rfl
theorem fk33 : fnk Try.prog 33 = true := by kernel_rfl
theorem fk34 : fnk Try.prog 34 = true := by kernel_rfl
theorem fk35 : fnk Try.prog 35 = true := by kernel_rfl
theorem fk36 : fnk Try.prog 36 = true := by kernel_rfl
theorem fk37 : fnk Try.prog 37 = true := by kernel_rfl
theorem fk38 : fnk Try.prog 38 = true := by kernel_rfl
theorem fk39 : fnk Try.prog 39 = true := by kernel_rfl
theorem fk40 : fnk Try.prog 40 = true := by kernel_rfl
theorem fk41 : fnk Try.prog 41 = true := by kernel_rfl
theorem fk42 : fnk Try.prog 42 = true := by kernel_rfl
theorem fk43 : fnk Try.prog 43 = true := by kernel_rfl
theorem fk44 : fnk Try.prog 44 = true := by kernel_rfl
theorem fk45 : fnk Try.prog 45 = true := by kernel_rfl
theorem fk46 : fnk Try.prog 46 = true := by kernel_rfl
theorem fk47 : fnk Try.prog 47 = true := by kernel_rfl
theorem fk48 : fnk Try.prog 48 = true := by kernel_rfl
theorem fk49 : fnk Try.prog 49 = true := by kernel_rfl
theorem fk50 : fnk Try.prog 50 = true := by kernel_rfl
theorem fk51 : fnk Try.prog 51 = true := by kernel_rfl
theorem fk52 : fnk Try.prog 52 = true := by kernel_rfl
theorem fk53 : fnk Try.prog 53 = true := by kernel_rfl
theorem fk54 : fnk Try.prog 54 = true := by kernel_rfl
theorem fk55 : fnk Try.prog 55 = true := by kernel_rfl
theorem fk56 : fnk Try.prog 56 = true := by kernel_rfl
theorem fk57 : fnk Try.prog 57 = true := by kernel_rfl
theorem fk58 : fnk Try.prog 58 = true := by kernel_rfl
theorem fk59 : fnk Try.prog 59 = true := by kernel_rfl
theorem fk60 : fnk Try.prog 60 = true := by kernel_rfl
theorem fk61 : fnk Try.prog 61 = true := by kernel_rfl
theorem fk62 : fnk Try.prog 62 = true := by kernel_rfl
theorem fk63 : fnk Try.prog 63 = true := by kernel_rfl
theorem fk64 : fnk Try.prog 64 = true := by kernel_rfl
theorem fk65 : fnk Try.prog 65 = true := by kernel_rfl
theorem fk66 : fnk Try.prog 66 = true := by kernel_rfl
theorem fk67 : fnk Try.prog 67 = true := by kernel_rfl
theorem fk69 : fnk Try.prog 69 = true := by kernel_rfl
theorem fk70 : fnk Try.prog 70 = true := by kernel_rfl
theorem fk71 : fnk Try.prog 71 = true := by kernel_rfl
theorem fk72 : fnk Try.prog 72 = true := by kernel_rfl
theorem fk73 : fnk Try.prog 73 = true := by kernel_rfl
theorem fk74 : fnk Try.prog 74 = true := by kernel_rfl
theorem fk75 : fnk Try.prog 75 = true := by kernel_rfl
theorem fk77 : fnk Try.prog 77 = true := by kernel_rfl
theorem fk78 : fnk Try.prog 78 = true := by kernel_rfl
theorem fk79 : fnk Try.prog 79 = true := by kernel_rfl
theorem fk80 : fnk Try.prog 80 = true := by kernel_rfl
theorem fk81 : fnk Try.prog 81 = true := by kernel_rfl
theorem fk83 : fnk Try.prog 83 = true := by kernel_rfl
theorem fk85 : fnk Try.prog 85 = true := by kernel_rfl
theorem fk86 : fnk Try.prog 86 = true := by kernel_rfl
theorem fk89 : fnk Try.prog 89 = true := by kernel_rfl
theorem fk90 : fnk Try.prog 90 = true := by kernel_rfl
theorem fk91 : fnk Try.prog 91 = true := by kernel_rfl
theorem fk92 : fnk Try.prog 92 = true := by kernel_rfl
theorem fk93 : fnk Try.prog 93 = true := by kernel_rfl
theorem fk94 : fnk Try.prog 94 = true := by kernel_rfl
theorem fk95 : fnk Try.prog 95 = true := by kernel_rfl
theorem fk96 : fnk Try.prog 96 = true := by kernel_rfl
theorem fk97 : fnk Try.prog 97 = true := by kernel_rfl
theorem fk98 : fnk Try.prog 98 = true := by kernel_rfl
theorem fk99 : fnk Try.prog 99 = true := by kernel_rfl
theorem fk100 : fnk Try.prog 100 = true := by kernel_rfl
theorem fk101 : fnk Try.prog 101 = true := by kernel_rfl
theorem fk102 : fnk Try.prog 102 = true := by kernel_rfl
theorem fk103 : fnk Try.prog 103 = true := by kernel_rfl
theorem fk104 : fnk Try.prog 104 = true := by kernel_rfl
theorem fk105 : fnk Try.prog 105 = true := by kernel_rfl
theorem fk106 : fnk Try.prog 106 = true := by kernel_rfl
theorem fk107 : fnk Try.prog 107 = true := by kernel_rfl
theorem fk108 : fnk Try.prog 108 = true := by kernel_rfl
theorem fk109 : fnk Try.prog 109 = true := by kernel_rfl
theorem mixed : Try.prog.follows .mixedOrders = true := by kernel_rfl
theorem bd8_33  : Try.prog.built 49 [] = some #[.slice none 0 0] := by kernel_rfl
theorem bd8_215  : Try.prog.built 31 [] = some #[.int .i64 0, .int .u64 0, .int .u64 0] := by kernel_rfl
theorem bd9_50  : Try.prog.built 31 [(0, .int .i64 1), (1, .int .u64 4), (2, .int .u64 7)] = some #[.int .i64 1, .int .u64 4, .int .u64 7] := by kernel_rfl
theorem bd9_93  : Try.prog.built 31 [(0, .int .i64 (-5)), (1, .int .u64 18446744073709551615)] = some #[.int .i64 (-5), .int .u64 18446744073709551615, .int .u64 0] := by kernel_rfl
theorem bd9_143  : Try.prog.built 31 [] = some #[.int .i64 0, .int .u64 0, .int .u64 0] := by kernel_rfl
theorem bd12_21  : Try.prog.built 69 [] = some #[.slice none 0 0, .slice none 0 0, .slice none 0 0, .int .u64 0] := by kernel_rfl
theorem bd12_97  : Try.prog.built 31 [] = some #[.int .i64 0, .int .u64 0, .int .u64 0] := by kernel_rfl
theorem bd16_16  : Try.prog.built 31 [(0, .int .i64 2), (1, .int .u64 1), (2, .int .u64 1)] = some #[.int .i64 2, .int .u64 1, .int .u64 1] := by kernel_rfl
theorem bd16_31  : Try.prog.built 31 [(0, .int .i64 3), (1, .int .u64 5)] = some #[.int .i64 3, .int .u64 5, .int .u64 0] := by kernel_rfl
theorem bd16_51  : Try.prog.built 31 [(0, .int .i64 2), (1, .int .u64 5), (2, .int .u64 1)] = some #[.int .i64 2, .int .u64 5, .int .u64 1] := by kernel_rfl
theorem bd17_2 (x1 : Option Nat) : Try.prog.built 56 [(1, .map x1), (2, .bool true)] = some #[.slice none 0 0, .map x1, .bool true] := by kernel_rfl
theorem bs18_26 (x1 : Int) (x2 : Int) (x3 : Int) : bltS Try.prog 22 1 [(0, .agg #[.int .i64 x1, .int .u64 x2, .int .u64 x3])] = some (31, [.int .i64 x1, .int .u64 x2, .int .u64 x3]) := by kernel_rfl
theorem bd25_32 (x1 : Int) (x2 : Int) (x3 : Int) : Try.prog.built 31 [(0, .int .i64 x1), (1, .int .u64 x2), (2, .int .u64 x3)] = some #[.int .i64 x1, .int .u64 x2, .int .u64 x3] := by kernel_rfl
theorem bd26_10  : Try.prog.built 31 [] = some #[.int .i64 0, .int .u64 0, .int .u64 0] := by kernel_rfl
theorem bd26_22  : Try.prog.built 31 [] = some #[.int .i64 0, .int .u64 0, .int .u64 0] := by kernel_rfl
theorem bs27_13 (x1 : Int) (x2 : Int) (x3 : Int) : bltS Try.prog 22 1 [(0, .agg #[.int .i64 x1, .int .u64 x2, .int .u64 x3])] = some (31, [.int .i64 x1, .int .u64 x2, .int .u64 x3]) := by kernel_rfl
theorem bd29_10  : Try.prog.built 31 [] = some #[.int .i64 0, .int .u64 0, .int .u64 0] := by kernel_rfl
theorem bd31_22 (x1 : Int) (x2 : Int) (x3 : Int) : Try.prog.built 31 [(0, .int .i64 x1), (1, .int .u64 x2), (2, .int .u64 x3)] = some #[.int .i64 x1, .int .u64 x2, .int .u64 x3] := by kernel_rfl
theorem bd32_12  : Try.prog.built 31 [] = some #[.int .i64 0, .int .u64 0, .int .u64 0] := by kernel_rfl
theorem bs33_30 (x1 : Int) (x2 : Int) (x3 : Int) : bltS Try.prog 22 1 [(0, .agg #[.int .i64 x1, .int .u64 x2, .int .u64 x3])] = some (31, [.int .i64 x1, .int .u64 x2, .int .u64 x3]) := by kernel_rfl
theorem bd34_14  : Try.prog.built 31 [] = some #[.int .i64 0, .int .u64 0, .int .u64 0] := by kernel_rfl
theorem bd35_4  : Try.prog.built 31 [(0, .int .i64 1), (1, .int .u64 9)] = some #[.int .i64 1, .int .u64 9, .int .u64 0] := by kernel_rfl
theorem bd35_7  : Try.prog.built 31 [(0, .int .i64 2), (1, .int .u64 5), (2, .int .u64 1)] = some #[.int .i64 2, .int .u64 5, .int .u64 1] := by kernel_rfl
theorem bd35_10  : Try.prog.built 31 [(0, .int .i64 3), (1, .int .u64 5)] = some #[.int .i64 3, .int .u64 5, .int .u64 0] := by kernel_rfl
theorem bd36_27  : Try.prog.built 31 [(0, .int .i64 3), (1, .int .u64 8), (2, .int .u64 2)] = some #[.int .i64 3, .int .u64 8, .int .u64 2] := by kernel_rfl
theorem bd36_50  : Try.prog.built 31 [(0, .int .i64 1), (1, .int .u64 10)] = some #[.int .i64 1, .int .u64 10, .int .u64 0] := by kernel_rfl
theorem bd37_3 (x1 : Option Addr) (x2 : Option Nat) : Try.prog.built 88 [(0, .pointer x1), (2, .map x2)] = some #[.pointer x1, .slice none 0 0, .map x2, .int .u64 0] := by kernel_rfl
theorem bd38_31 (x1 : Int) : Try.prog.built 92 [(0, .int .u64 x1)] = some #[.int .u64 x1, .slice none 0 0] := by kernel_rfl
theorem bs38_33 (x2 : Option Addr) : bltS Try.prog 86 1 [(0, .pointer x2)] = some (90, [.pointer x2]) := by kernel_rfl
theorem bd39_29 (x1 : Int) (x2 : Int) (x3 : Int) : Try.prog.built 31 [(0, .int .i64 x1), (1, .int .u64 x2), (2, .int .u64 x3)] = some #[.int .i64 x1, .int .u64 x2, .int .u64 x3] := by kernel_rfl
theorem bs39_85 (x4 : Int) (x5 : Int) (x6 : Int) : bltS Try.prog 22 1 [(0, .agg #[.int .i64 x4, .int .u64 x5, .int .u64 x6])] = some (31, [.int .i64 x4, .int .u64 x5, .int .u64 x6]) := by kernel_rfl
theorem bs41_13 (x1 : Int) (x2 : Int) (x3 : Int) : bltS Try.prog 22 1 [(0, .agg #[.int .i64 x1, .int .u64 x2, .int .u64 x3])] = some (31, [.int .i64 x1, .int .u64 x2, .int .u64 x3]) := by kernel_rfl
theorem bd43_8  : Try.prog.built 31 [] = some #[.int .i64 0, .int .u64 0, .int .u64 0] := by kernel_rfl
theorem bs44_23 (x1 : Int) (x2 : Int) (x3 : Int) : bltS Try.prog 22 1 [(0, .agg #[.int .i64 x1, .int .u64 x2, .int .u64 x3])] = some (31, [.int .i64 x1, .int .u64 x2, .int .u64 x3]) := by kernel_rfl
theorem bd47_26 (x1 : Int) (x2 : Int) (x3 : Int) : Try.prog.built 31 [(0, .int .i64 x1), (1, .int .u64 x2), (2, .int .u64 x3)] = some #[.int .i64 x1, .int .u64 x2, .int .u64 x3] := by kernel_rfl
theorem bs47_94 (x4 : Int) (x5 : Int) (x6 : Int) : bltS Try.prog 22 1 [(0, .agg #[.int .i64 x4, .int .u64 x5, .int .u64 x6])] = some (31, [.int .i64 x4, .int .u64 x5, .int .u64 x6]) := by kernel_rfl
theorem bs47_104 (x7 : Int) : bltS Try.prog 67 1 [(0, .int .i64 x7)] = some (3, [.int .i64 x7]) := by kernel_rfl
theorem bs48_34 (x1 : Int) (x2 : Int) (x3 : Int) : bltS Try.prog 22 1 [(0, .agg #[.int .i64 x1, .int .u64 x2, .int .u64 x3])] = some (31, [.int .i64 x1, .int .u64 x2, .int .u64 x3]) := by kernel_rfl
theorem bs48_44 (x4 : Int) : bltS Try.prog 67 1 [(0, .int .i64 x4)] = some (3, [.int .i64 x4]) := by kernel_rfl
theorem bs49_28 (x1 : Int) (x2 : Int) (x3 : Int) : bltS Try.prog 22 1 [(0, .agg #[.int .i64 x1, .int .u64 x2, .int .u64 x3])] = some (31, [.int .i64 x1, .int .u64 x2, .int .u64 x3]) := by kernel_rfl
theorem bs50_40 (x1 : Int) : bltS Try.prog 58 1 [(0, .int .u64 x1)] = some (29, [.int .u64 x1]) := by kernel_rfl
theorem bs51_49 (x1 : Int) (x2 : Int) (x3 : Int) : bltS Try.prog 22 1 [(0, .agg #[.int .i64 x1, .int .u64 x2, .int .u64 x3])] = some (31, [.int .i64 x1, .int .u64 x2, .int .u64 x3]) := by kernel_rfl
theorem bd52_15  : Try.prog.built 31 [] = some #[.int .i64 0, .int .u64 0, .int .u64 0] := by kernel_rfl
theorem bs59_20 (x1 : Int) (x2 : Int) (x3 : Int) : bltS Try.prog 67 3 [(0, .int .i64 x1), (1, .int .i64 x2), (2, .int .i64 x3)] = some (3, [.int .i64 x1, .int .i64 x2, .int .i64 x3]) := by kernel_rfl
theorem bs64_37 (x1 : Int) (x2 : Int) (x3 : Int) : bltS Try.prog 22 1 [(0, .agg #[.int .i64 x1, .int .u64 x2, .int .u64 x3])] = some (31, [.int .i64 x1, .int .u64 x2, .int .u64 x3]) := by kernel_rfl
theorem bd70_39 (x1 : Int) (x2 : Int) (x3 : Int) : Try.prog.built 31 [(0, .int .i64 x1), (1, .int .u64 x2), (2, .int .u64 x3)] = some #[.int .i64 x1, .int .u64 x2, .int .u64 x3] := by kernel_rfl
theorem bs76_15 (x1 : Int) (x2 : Int) : bltS Try.prog 67 2 [(0, .int .i64 x1), (1, .int .i64 x2)] = some (3, [.int .i64 x1, .int .i64 x2]) := by kernel_rfl
theorem bs92_10 (x1 : Int) (x2 : Int) (x3 : Int) : bltS Try.prog 22 1 [(0, .agg #[.int .i64 x1, .int .u64 x2, .int .u64 x3])] = some (31, [.int .i64 x1, .int .u64 x2, .int .u64 x3]) := by kernel_rfl
end Fx
end Go.Proofs.Ytcnegelaenkgpaa
