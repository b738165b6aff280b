/-
  Facts of the seat's program: its types, which functions have a body, what is built.
-/
import Derived.Test.YtdjoofidicoimaaRows
import Derived.Test.YtdjoofidicoimaaRxA
import Derived.Test.YtdjoofidicoimaaRxS
import Derived.Test.YtdjoofidicoimaaRxP
import Derived.Test.YtdjoofidicoimaaRxH
import Derived.Test.YtdjoofidicoimaaRxM
namespace Go.Proofs.Ytdjoofidicoimaa
set_option linter.unusedSimpArgs false
set_option linter.unusedVariables false
set_option linter.unnecessarySimpa false
open Go.RX
namespace Fx
theorem ag3 : agk Try.prog 3 = some false := by kernel_rfl
theorem sz3 : szk Try.prog 3 = some 1 := by kernel_rfl
theorem zr3 : zrk Try.prog 3 = some ([.int .i64 0]) := by kernel_rfl
theorem ty3 : tyr Try.prog 3 = some (1, 8, 1) := by kernel_rfl
theorem ag4 : agk Try.prog 4 = some false := by kernel_rfl
theorem sz4 : szk Try.prog 4 = some 1 := by kernel_rfl
theorem zr4 : zrk Try.prog 4 = some ([.bool false]) := by kernel_rfl
theorem ty4 : tyr Try.prog 4 = some (1, 1, 1) := by kernel_rfl
theorem ag5 : agk Try.prog 5 = some false := by kernel_rfl
theorem sz5 : szk Try.prog 5 = some 1 := by kernel_rfl
theorem zr5 : zrk Try.prog 5 = some ([.int .u8 0]) := by kernel_rfl
theorem ty5 : tyr Try.prog 5 = some (1, 1, 1) := by kernel_rfl
theorem ag9 : agk Try.prog 9 = some false := by kernel_rfl
theorem sz9 : szk Try.prog 9 = some 1 := by kernel_rfl
theorem zr9 : zrk Try.prog 9 = some ([.string ⟨#[]⟩]) := by kernel_rfl
theorem ty9 : tyr Try.prog 9 = some (1, 16, 1) := by kernel_rfl
theorem ag22 : agk Try.prog 22 = some false := by kernel_rfl
theorem sz22 : szk Try.prog 22 = some 1 := by kernel_rfl
theorem zr22 : zrk Try.prog 22 = some ([.slice none 0 0]) := by kernel_rfl
theorem ty22 : tyr Try.prog 22 = some (1, 24, 1) := by kernel_rfl
theorem ag23 : agk Try.prog 23 = some false := by kernel_rfl
theorem sz23 : szk Try.prog 23 = some 1 := by kernel_rfl
theorem zr23 : zrk Try.prog 23 = some ([.int .u64 0]) := by kernel_rfl
theorem ty23 : tyr Try.prog 23 = some (1, 8, 1) := by kernel_rfl
theorem ag25 : agk Try.prog 25 = some false := by kernel_rfl
theorem sz25 : szk Try.prog 25 = some 1 := by kernel_rfl
theorem zr25 : zrk Try.prog 25 = some ([.pointer none]) := by kernel_rfl
theorem ty25 : tyr Try.prog 25 = some (1, 8, 1) := by kernel_rfl
theorem ag27 : agk Try.prog 27 = some false := by kernel_rfl
theorem sz27 : szk Try.prog 27 = some 1 := by kernel_rfl
theorem zr27 : zrk Try.prog 27 = some ([.int .i64 0]) := by kernel_rfl
theorem ty27 : tyr Try.prog 27 = some (1, 8, 1) := by kernel_rfl
theorem ag29 : agk Try.prog 29 = some false := by kernel_rfl
theorem sz29 : szk Try.prog 29 = some 1 := by kernel_rfl
theorem zr29 : zrk Try.prog 29 = some ([.int .u32 0]) := by kernel_rfl
theorem ty29 : tyr Try.prog 29 = some (1, 4, 1) := by kernel_rfl
theorem ag35 : agk Try.prog 35 = some false := by kernel_rfl
theorem sz35 : szk Try.prog 35 = some 1 := by kernel_rfl
theorem zr35 : zrk Try.prog 35 = some ([.slice none 0 0]) := by kernel_rfl
theorem ty35 : tyr Try.prog 35 = some (1, 24, 1) := by kernel_rfl
theorem ag39 : agk Try.prog 39 = some false := by kernel_rfl
theorem sz39 : szk Try.prog 39 = some 1 := by kernel_rfl
theorem zr39 : zrk Try.prog 39 = some ([.slice none 0 0]) := by kernel_rfl
theorem ty39 : tyr Try.prog 39 = some (1, 24, 1) := by kernel_rfl
theorem ag41 : agk Try.prog 41 = some true := by kernel_rfl
theorem sz41 : szk Try.prog 41 = some 5 := by kernel_rfl
theorem zr41 : zrk Try.prog 41 = some ([.int .i64 0, .int .i64 0, .int .u64 0, .int .u64 0, .bool false]) := by kernel_rfl
theorem ty41 : tyr Try.prog 41 = some (5, 40, 5) := by kernel_rfl
theorem ag49 : agk Try.prog 49 = some false := by kernel_rfl
theorem sz49 : szk Try.prog 49 = some 1 := by kernel_rfl
theorem zr49 : zrk Try.prog 49 = some ([.slice none 0 0]) := by kernel_rfl
theorem ty49 : tyr Try.prog 49 = some (1, 24, 1) := by kernel_rfl
theorem ag52 : agk Try.prog 52 = some false := by kernel_rfl
theorem sz52 : szk Try.prog 52 = some 1 := by kernel_rfl
theorem zr52 : zrk Try.prog 52 = some ([.pointer none]) := by kernel_rfl
theorem ty52 : tyr Try.prog 52 = some (1, 8, 1) := by kernel_rfl
theorem ag56 : agk Try.prog 56 = some false := by kernel_rfl
theorem sz56 : szk Try.prog 56 = some 1 := by kernel_rfl
theorem zr56 : zrk Try.prog 56 = some ([.slice none 0 0]) := by kernel_rfl
theorem ty56 : tyr Try.prog 56 = some (1, 24, 1) := by kernel_rfl
theorem ag58 : agk Try.prog 58 = some true := by kernel_rfl
theorem sz58 : szk Try.prog 58 = some 3 := by kernel_rfl
theorem zr58 : zrk Try.prog 58 = some ([.slice none 0 0, .int .i64 0, .int .u64 0]) := by kernel_rfl
theorem ty58 : tyr Try.prog 58 = some (3, 40, 3) := by kernel_rfl
theorem ag61 : agk Try.prog 61 = some true := by kernel_rfl
theorem sz61 : szk Try.prog 61 = some 5 := by kernel_rfl
theorem zr61 : zrk Try.prog 61 = some ([.int .i64 0, .int .u64 0, .bool false, .int .u64 0, .int .i64 0]) := by kernel_rfl
theorem ty61 : tyr Try.prog 61 = some (5, 40, 5) := by kernel_rfl
theorem ag62 : agk Try.prog 62 = some false := by kernel_rfl
theorem sz62 : szk Try.prog 62 = some 1 := by kernel_rfl
theorem zr62 : zrk Try.prog 62 = some ([.pointer none]) := by kernel_rfl
theorem ty62 : tyr Try.prog 62 = some (1, 8, 1) := by kernel_rfl
theorem ag64 : agk Try.prog 64 = some false := by kernel_rfl
theorem sz64 : szk Try.prog 64 = some 1 := by kernel_rfl
theorem zr64 : zrk Try.prog 64 = some ([.map none]) := by kernel_rfl
theorem ty64 : tyr Try.prog 64 = some (1, 8, 1) := by kernel_rfl
theorem ag66 : agk Try.prog 66 = some true := by kernel_rfl
theorem sz66 : szk Try.prog 66 = some 3 := by kernel_rfl
theorem zr66 : zrk Try.prog 66 = some ([.pointer none, .map none, .int .u64 0]) := by kernel_rfl
theorem ty66 : tyr Try.prog 66 = some (3, 24, 3) := by kernel_rfl
theorem ag69 : agk Try.prog 69 = some true := by kernel_rfl
theorem sz69 : szk Try.prog 69 = some 3 := by kernel_rfl
theorem zr69 : zrk Try.prog 69 = some ([.int .i64 0, .int .u64 0, .int .u64 0]) := by kernel_rfl
theorem ty69 : tyr Try.prog 69 = some (3, 24, 3) := by kernel_rfl
theorem ag77 : agk Try.prog 77 = some false := by kernel_rfl
theorem sz77 : szk Try.prog 77 = some 1 := by kernel_rfl
theorem zr77 : zrk Try.prog 77 = some ([.slice none 0 0]) := by kernel_rfl
theorem ty77 : tyr Try.prog 77 = some (1, 24, 1) := by kernel_rfl
theorem ag81 : agk Try.prog 81 = some false := by kernel_rfl
theorem sz81 : szk Try.prog 81 = some 1 := by kernel_rfl
theorem zr81 : zrk Try.prog 81 = some ([.pointer none]) := by kernel_rfl
theorem ty81 : tyr Try.prog 81 = some (1, 8, 1) := by kernel_rfl
theorem ag83 : agk Try.prog 83 = some false := by kernel_rfl
theorem sz83 : szk Try.prog 83 = some 1 := by kernel_rfl
theorem zr83 : zrk Try.prog 83 = some ([.map none]) := by kernel_rfl
theorem ty83 : tyr Try.prog 83 = some (1, 8, 1) := by kernel_rfl
theorem ag84 : agk Try.prog 84 = some false := by kernel_rfl
theorem sz84 : szk Try.prog 84 = some 1 := by kernel_rfl
theorem zr84 : zrk Try.prog 84 = some ([.slice none 0 0]) := by kernel_rfl
theorem ty84 : tyr Try.prog 84 = some (1, 24, 1) := by kernel_rfl
theorem ag86 : agk Try.prog 86 = some true := by kernel_rfl
theorem sz86 : szk Try.prog 86 = some 4 := by kernel_rfl
theorem zr86 : zrk Try.prog 86 = some ([.pointer none, .slice none 0 0, .map none, .int .u64 0]) := by kernel_rfl
theorem ty86 : tyr Try.prog 86 = some (4, 48, 4) := by kernel_rfl
theorem ag88 : agk Try.prog 88 = some false := by kernel_rfl
theorem sz88 : szk Try.prog 88 = some 1 := by kernel_rfl
theorem zr88 : zrk Try.prog 88 = some ([.pointer none]) := by kernel_rfl
theorem ty88 : tyr Try.prog 88 = some (1, 8, 1) := by kernel_rfl
theorem ag90 : agk Try.prog 90 = some true := by kernel_rfl
theorem sz90 : szk Try.prog 90 = some 2 := by kernel_rfl
theorem zr90 : zrk Try.prog 90 = some ([.int .u64 0, .slice none 0 0]) := by kernel_rfl
theorem ty90 : tyr Try.prog 90 = some (2, 32, 2) := by kernel_rfl
theorem ag91 : agk Try.prog 91 = some false := by kernel_rfl
theorem sz91 : szk Try.prog 91 = some 1 := by kernel_rfl
theorem zr91 : zrk Try.prog 91 = some ([.nilFunc]) := by kernel_rfl
theorem ty91 : tyr Try.prog 91 = some (1, 8, 1) := by kernel_rfl
theorem ag95 : agk Try.prog 95 = some false := by kernel_rfl
theorem sz95 : szk Try.prog 95 = some 1 := by kernel_rfl
theorem zr95 : zrk Try.prog 95 = some ([.nilFunc]) := by kernel_rfl
theorem ty95 : tyr Try.prog 95 = some (1, 8, 1) := by kernel_rfl
theorem ag100 : agk Try.prog 100 = some true := by kernel_rfl
theorem sz100 : szk Try.prog 100 = some 3 := by kernel_rfl
theorem zr100 : zrk Try.prog 100 = some ([.slice none 0 0, .map none, .bool false]) := by kernel_rfl
theorem ty100 : tyr Try.prog 100 = some (3, 40, 3) := by kernel_rfl
theorem ag105 : agk Try.prog 105 = some false := by kernel_rfl
theorem sz105 : szk Try.prog 105 = some 1 := by kernel_rfl
theorem zr105 : zrk Try.prog 105 = some ([.nilFunc]) := by kernel_rfl
theorem ty105 : tyr Try.prog 105 = some (1, 8, 1) := by kernel_rfl
theorem ag106 : agk Try.prog 106 = some false := by kernel_rfl
theorem sz106 : szk Try.prog 106 = some 1 := by kernel_rfl
theorem zr106 : zrk Try.prog 106 = some ([.nilFunc]) := by kernel_rfl
theorem ty106 : tyr Try.prog 106 = some (1, 8, 1) := by kernel_rfl
theorem ag113 : agk Try.prog 113 = some false := by kernel_rfl
theorem sz113 : szk Try.prog 113 = some 1 := by kernel_rfl
theorem zr113 : zrk Try.prog 113 = some ([.int .u64 0]) := by kernel_rfl
theorem ty113 : tyr Try.prog 113 = some (1, 8, 1) := by kernel_rfl
theorem ag117 : agk Try.prog 117 = some false := by kernel_rfl
theorem sz117 : szk Try.prog 117 = some 1 := by kernel_rfl
theorem zr117 : zrk Try.prog 117 = some ([.int .i64 0]) := by kernel_rfl
theorem ty117 : tyr Try.prog 117 = some (1, 8, 1) := by kernel_rfl
theorem ag125 : agk Try.prog 125 = some false := by kernel_rfl
theorem sz125 : szk Try.prog 125 = some 1 := by kernel_rfl
theorem zr125 : zrk Try.prog 125 = some ([.int .u64 0]) := by kernel_rfl
theorem ty125 : tyr Try.prog 125 = some (1, 8, 1) := by kernel_rfl
theorem ag129 : agk Try.prog 129 = some false := by kernel_rfl
theorem sz129 : szk Try.prog 129 = some 1 := by kernel_rfl
theorem zr129 : zrk Try.prog 129 = some ([.pointer none]) := by kernel_rfl
theorem ty129 : tyr Try.prog 129 = some (1, 8, 1) := by kernel_rfl
theorem mapt64 : MapT Try.prog 64 .i64 (.int .u64 0) := MapT.of (by kernel_rfl)
theorem mapt83 : MapT Try.prog 83 .i64 (.int .i64 0) := MapT.of (by kernel_rfl)
theorem fk9 : fnk Try.prog 9 = true := by kernel_rfl
theorem fk10 : fnk Try.prog 10 = true := by kernel_rfl
theorem fk11 : fnk Try.prog 11 = true := by kernel_rfl
theorem fk12 : fnk Try.prog 12 = true := by kernel_rfl
theorem fk13 : fnk Try.prog 13 = true := by kernel_rfl
theorem fk14 : fnk Try.prog 14 = true := by kernel_rfl
theorem fk15 : fnk Try.prog 15 = true := by kernel_rfl
theorem fk16 : fnk Try.prog 16 = true := by kernel_rfl
theorem fk17 : fnk Try.prog 17 = true := by kernel_rfl
theorem fk18 : fnk Try.prog 18 = true := by kernel_rfl
theorem fk19 : fnk Try.prog 19 = true := by kernel_rfl
theorem fk20 : fnk Try.prog 20 = true := by kernel_rfl
theorem fk21 : fnk Try.prog 21 = true := by kernel_rfl
theorem fk22 : fnk Try.prog 22 = true := by kernel_rfl
theorem fk23 : fnk Try.prog 23 = true := by kernel_rfl
theorem fk24 : fnk Try.prog 24 = true := by kernel_rfl
theorem fk25 : fnk Try.prog 25 = true := by kernel_rfl
theorem fk26 : fnk Try.prog 26 = true := by kernel_rfl
theorem fk27 : fnk Try.prog 27 = true := by kernel_rfl
theorem fk28 : fnk Try.prog 28 = true := by kernel_rfl
theorem fk29 : fnk Try.prog 29 = true := by kernel_rfl
theorem fk30 : fnk Try.prog 30 = true := by kernel_rfl
theorem fk31 : fnk Try.prog 31 = true := by kernel_rfl
theorem fk32 : fnk Try.prog 32 = true := by kernel_rfl
theorem fk33 : fnk Try.prog 33 = true := by kernel_rfl
theorem fk34 : fnk Try.prog 34 = true := by kernel_rfl
theorem fk35 : fnk Try.prog 35 = true := by kernel_rfl
theorem fk36 : fnk Try.prog 36 = true := by kernel_rfl
theorem fk37 : fnk Try.prog 37 = true := by kernel_rfl
theorem fk38 : fnk Try.prog 38 = true := by kernel_rfl
theorem fk39 : fnk Try.prog 39 = true := by kernel_rfl
theorem fk40 : fnk Try.prog 40 = true := by kernel_rfl
theorem fk41 : fnk Try.prog 41 = true := by kernel_rfl
theorem fk42 : fnk Try.prog 42 = true := by kernel_rfl
theorem fk43 : fnk Try.prog 43 = true := by kernel_rfl
theorem fk44 : fnk Try.prog 44 = true := by kernel_rfl
theorem fk45 : fnk Try.prog 45 = true := by kernel_rfl
theorem fk46 : fnk Try.prog 46 = true := by kernel_rfl
theorem fk47 : fnk Try.prog 47 = true := by kernel_rfl
theorem fk48 : fnk Try.prog 48 = true := by kernel_rfl
theorem fk49 : fnk Try.prog 49 = true := by kernel_rfl
theorem fk50 : fnk Try.prog 50 = true := by kernel_rfl
theorem fk51 : fnk Try.prog 51 = true := by kernel_rfl
theorem fk53 : fnk Try.prog 53 = true := by kernel_rfl
theorem fk54 : fnk Try.prog 54 = true := by kernel_rfl
theorem fk55 : fnk Try.prog 55 = true := by kernel_rfl
theorem fk56 : fnk Try.prog 56 = true := by kernel_rfl
theorem fk57 : fnk Try.prog 57 = true := by kernel_rfl
theorem fk58 : fnk Try.prog 58 = true := by kernel_rfl
theorem fk60 : fnk Try.prog 60 = true := by kernel_rfl
theorem fk61 : fnk Try.prog 61 = true := by kernel_rfl
theorem fk62 : fnk Try.prog 62 = true := by kernel_rfl
theorem fk63 : fnk Try.prog 63 = true := by kernel_rfl
theorem fk64 : fnk Try.prog 64 = true := by kernel_rfl
theorem fk65 : fnk Try.prog 65 = true := by kernel_rfl
theorem fk66 : fnk Try.prog 66 = true := by kernel_rfl
theorem fk67 : fnk Try.prog 67 = true := by kernel_rfl
theorem fk68 : fnk Try.prog 68 = true := by kernel_rfl
theorem fk69 : fnk Try.prog 69 = true := by kernel_rfl
theorem fk71 : fnk Try.prog 71 = true := by kernel_rfl
theorem fk72 : fnk Try.prog 72 = true := by kernel_rfl
theorem fk74 : fnk Try.prog 74 = true := by kernel_rfl
theorem fk76 : fnk Try.prog 76 = true := by kernel_rfl
theorem fk77 : fnk Try.prog 77 = true := by kernel_rfl
theorem fk78 : fnk Try.prog 78 = true := by kernel_rfl
theorem fk79 : fnk Try.prog 79 = true := by kernel_rfl
theorem fk80 : fnk Try.prog 80 = true := by kernel_rfl
theorem fk81 : fnk Try.prog 81 = true := by kernel_rfl
theorem fk82 : fnk Try.prog 82 = true := by kernel_rfl
theorem fk83 : fnk Try.prog 83 = true := by kernel_rfl
theorem fk84 : fnk Try.prog 84 = true := by kernel_rfl
theorem fk85 : fnk Try.prog 85 = true := by kernel_rfl
theorem fk87 : fnk Try.prog 87 = true := by kernel_rfl
theorem fk88 : fnk Try.prog 88 = true := by kernel_rfl
theorem fk89 : fnk Try.prog 89 = true := by kernel_rfl
theorem fk90 : fnk Try.prog 90 = true := by kernel_rfl
theorem fk91 : fnk Try.prog 91 = true := by kernel_rfl
theorem fk92 : fnk Try.prog 92 = true := by kernel_rfl
theorem fk93 : fnk Try.prog 93 = true := by kernel_rfl
theorem fk94 : fnk Try.prog 94 = true := by kernel_rfl
theorem fk95 : fnk Try.prog 95 = true := by kernel_rfl
theorem fk96 : fnk Try.prog 96 = true := by kernel_rfl
theorem fk97 : fnk Try.prog 97 = true := by kernel_rfl
theorem fk98 : fnk Try.prog 98 = true := by kernel_rfl
theorem fk99 : fnk Try.prog 99 = true := by kernel_rfl
theorem fk100 : fnk Try.prog 100 = true := by kernel_rfl
theorem fk101 : fnk Try.prog 101 = true := by kernel_rfl
theorem fk102 : fnk Try.prog 102 = true := by kernel_rfl
theorem fk103 : fnk Try.prog 103 = true := by kernel_rfl
theorem fk104 : fnk Try.prog 104 = true := by kernel_rfl
theorem mixed : Try.prog.follows .mixedOrders = true := by kernel_rfl
theorem bs9_27  : bltS Try.prog 35 2 [(0, .int .i64 2), (1, .int .i64 3)] = some (3, [.int .i64 2, .int .i64 3]) := by kernel_rfl
theorem bd10_3 (x1 : Option Addr) (x2 : Option Nat) : Try.prog.built 66 [(0, .pointer x1), (1, .map x2), (2, .int .u64 18446744073709551615)] = some #[.pointer x1, .map x2, .int .u64 18446744073709551615] := by kernel_rfl
theorem bs14_36 (x1 : Int) (x2 : Int) : bltS Try.prog 49 2 [(0, .int .u64 x1), (1, .int .u64 x2)] = some (23, [.int .u64 x1, .int .u64 x2]) := by kernel_rfl
theorem bs16_20 (x1 : Int) : bltS Try.prog 35 1 [(0, .int .i64 x1)] = some (3, [.int .i64 x1]) := by kernel_rfl
theorem bd24_1  : Try.prog.built 58 [(2, .int .u64 18446744073709551615)] = some #[.slice none 0 0, .int .i64 0, .int .u64 18446744073709551615] := by kernel_rfl
theorem bd25_22 (x1 : Int) (x2 : Int) (x3 : Int) (x4 : Int) : Try.prog.built 61 [(0, .int .i64 x1), (1, .int .u64 x2), (2, .bool true), (3, .int .u64 x3), (4, .int .i64 x4)] = some #[.int .i64 x1, .int .u64 x2, .bool true, .int .u64 x3, .int .i64 x4] := by kernel_rfl
theorem bs25_41 (x5 : Int) (x6 : Int) (x7 : Bool) (x8 : Int) (x9 : Int) : bltS Try.prog 56 1 [(0, .agg #[.int .i64 x5, .int .u64 x6, .bool x7, .int .u64 x8, .int .i64 x9])] = some (61, [.int .i64 x5, .int .u64 x6, .bool x7, .int .u64 x8, .int .i64 x9]) := by kernel_rfl
theorem bs28_33 (x1 : Int) (x2 : Int) (x3 : Bool) (x4 : Int) (x5 : Int) : bltS Try.prog 56 1 [(0, .agg #[.int .i64 x1, .int .u64 x2, .bool x3, .int .u64 x4, .int .i64 x5])] = some (61, [.int .i64 x1, .int .u64 x2, .bool x3, .int .u64 x4, .int .i64 x5]) := by kernel_rfl
theorem bs29_31 (x1 : Int) : bltS Try.prog 35 1 [(0, .int .i64 x1)] = some (3, [.int .i64 x1]) := by kernel_rfl
theorem bd33_3 (x1 : Option Addr) (x2 : Option Nat) : Try.prog.built 86 [(0, .pointer x1), (2, .map x2)] = some #[.pointer x1, .slice none 0 0, .map x2, .int .u64 0] := by kernel_rfl
theorem bd35_31 (x1 : Int) : Try.prog.built 90 [(0, .int .u64 x1)] = some #[.int .u64 x1, .slice none 0 0] := by kernel_rfl
theorem bs35_33 (x2 : Option Addr) : bltS Try.prog 84 1 [(0, .pointer x2)] = some (88, [.pointer x2]) := by kernel_rfl
theorem bd36_29 (x1 : Int) (x2 : Int) (x3 : Int) : Try.prog.built 69 [(0, .int .i64 x1), (1, .int .u64 x2), (2, .int .u64 x3)] = some #[.int .i64 x1, .int .u64 x2, .int .u64 x3] := by kernel_rfl
theorem bs36_85 (x4 : Int) (x5 : Int) (x6 : Int) : bltS Try.prog 77 1 [(0, .agg #[.int .i64 x4, .int .u64 x5, .int .u64 x6])] = some (69, [.int .i64 x4, .int .u64 x5, .int .u64 x6]) := by kernel_rfl
theorem bd38_8  : Try.prog.built 69 [] = some #[.int .i64 0, .int .u64 0, .int .u64 0] := by kernel_rfl
theorem bs43_13 (x1 : Int) (x2 : Int) (x3 : Int) : bltS Try.prog 77 1 [(0, .agg #[.int .i64 x1, .int .u64 x2, .int .u64 x3])] = some (69, [.int .i64 x1, .int .u64 x2, .int .u64 x3]) := by kernel_rfl
theorem bd44_15  : Try.prog.built 69 [] = some #[.int .i64 0, .int .u64 0, .int .u64 0] := by kernel_rfl
theorem bd49_2 (x1 : Option Nat) : Try.prog.built 100 [(1, .map x1), (2, .bool true)] = some #[.slice none 0 0, .map x1, .bool true] := by kernel_rfl
theorem bd54_39 (x1 : Int) (x2 : Int) (x3 : Int) : Try.prog.built 69 [(0, .int .i64 x1), (1, .int .u64 x2), (2, .int .u64 x3)] = some #[.int .i64 x1, .int .u64 x2, .int .u64 x3] := by kernel_rfl
theorem bs55_26 (x1 : Int) (x2 : Int) (x3 : Int) : bltS Try.prog 77 1 [(0, .agg #[.int .i64 x1, .int .u64 x2, .int .u64 x3])] = some (69, [.int .i64 x1, .int .u64 x2, .int .u64 x3]) := by kernel_rfl
theorem bd56_14  : Try.prog.built 69 [] = some #[.int .i64 0, .int .u64 0, .int .u64 0] := by kernel_rfl
theorem bs58_23 (x1 : Int) (x2 : Int) (x3 : Int) : bltS Try.prog 77 1 [(0, .agg #[.int .i64 x1, .int .u64 x2, .int .u64 x3])] = some (69, [.int .i64 x1, .int .u64 x2, .int .u64 x3]) := by kernel_rfl
theorem bd62_10  : Try.prog.built 69 [] = some #[.int .i64 0, .int .u64 0, .int .u64 0] := by kernel_rfl
theorem bd62_22  : Try.prog.built 69 [] = some #[.int .i64 0, .int .u64 0, .int .u64 0] := by kernel_rfl
theorem bs70_15 (x1 : Int) (x2 : Int) : bltS Try.prog 35 2 [(0, .int .i64 x1), (1, .int .i64 x2)] = some (3, [.int .i64 x1, .int .i64 x2]) := by kernel_rfl
theorem bs78_20 (x1 : Int) (x2 : Int) (x3 : Int) : bltS Try.prog 35 3 [(0, .int .i64 x1), (1, .int .i64 x2), (2, .int .i64 x3)] = some (3, [.int .i64 x1, .int .i64 x2, .int .i64 x3]) := by kernel_rfl
theorem bs98_10 (x1 : Int) (x2 : Int) (x3 : Int) : bltS Try.prog 77 1 [(0, .agg #[.int .i64 x1, .int .u64 x2, .int .u64 x3])] = some (69, [.int .i64 x1, .int .u64 x2, .int .u64 x3]) := by kernel_rfl
end Fx
end Go.Proofs.Ytdjoofidicoimaa
