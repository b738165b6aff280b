/-
  Facts of the seat's program: its types, which functions have a body, what is built.
-/
import Derived.Test.YtgifpkpkkgkfeaaRows
import Derived.Test.YtgifpkpkkgkfeaaRxA
import Derived.Test.YtgifpkpkkgkfeaaRxS
import Derived.Test.YtgifpkpkkgkfeaaRxP
import Derived.Test.YtgifpkpkkgkfeaaRxH
import Derived.Test.YtgifpkpkkgkfeaaRxM
namespace Go.Proofs.Ytgifpkpkkgkfeaa
set_option linter.unusedSimpArgs false
set_option linter.unusedVariables false
set_option linter.unnecessarySimpa false
open Go.RX
namespace Fx
theorem ag3 : agk Try.prog 3 = some false := by kernel_rfl
theorem sz3 : szk Try.prog 3 = some 1 := by kernel_rfl
theorem zr3 : zrk Try.prog 3 = some ([.int .i64 0]) := by kernel_rfl
theorem ty3 : tyr Try.prog 3 = some (1, 8, 1) := by kernel_rfl
theorem ag4 : agk Try.prog 4 = some false := by kernel_rfl
theorem sz4 : szk Try.prog 4 = some 1 := by kernel_rfl
theorem zr4 : zrk Try.prog 4 = some ([.bool false]) := by kernel_rfl
theorem ty4 : tyr Try.prog 4 = some (1, 1, 1) := by kernel_rfl
theorem ag5 : agk Try.prog 5 = some false := by kernel_rfl
theorem sz5 : szk Try.prog 5 = some 1 := by kernel_rfl
theorem zr5 : zrk Try.prog 5 = some ([.int .u8 0]) := by kernel_rfl
theorem ty5 : tyr Try.prog 5 = some (1, 1, 1) := by kernel_rfl
theorem ag9 : agk Try.prog 9 = some false := by kernel_rfl
theorem sz9 : szk Try.prog 9 = some 1 := by kernel_rfl
theorem zr9 : zrk Try.prog 9 = some ([.string ⟨#[]⟩]) := by kernel_rfl
theorem ty9 : tyr Try.prog 9 = some (1, 16, 1) := by kernel_rfl
theorem ag22 : agk Try.prog 22 = some false := by kernel_rfl
theorem sz22 : szk Try.prog 22 = some 1 := by kernel_rfl
theorem zr22 : zrk Try.prog 22 = some ([.slice none 0 0]) := by kernel_rfl
theorem ty22 : tyr Try.prog 22 = some (1, 24, 1) := by kernel_rfl
theorem ag24 : agk Try.prog 24 = some false := by kernel_rfl
theorem sz24 : szk Try.prog 24 = some 1 := by kernel_rfl
theorem zr24 : zrk Try.prog 24 = some ([.pointer none]) := by kernel_rfl
theorem ty24 : tyr Try.prog 24 = some (1, 8, 1) := by kernel_rfl
theorem ag25 : agk Try.prog 25 = some false := by kernel_rfl
theorem sz25 : szk Try.prog 25 = some 1 := by kernel_rfl
theorem zr25 : zrk Try.prog 25 = some ([.slice none 0 0]) := by kernel_rfl
theorem ty25 : tyr Try.prog 25 = some (1, 24, 1) := by kernel_rfl
theorem ag27 : agk Try.prog 27 = some true := by kernel_rfl
theorem sz27 : szk Try.prog 27 = some 2 := by kernel_rfl
theorem zr27 : zrk Try.prog 27 = some ([.slice none 0 0, .int .i64 0]) := by kernel_rfl
theorem ty27 : tyr Try.prog 27 = some (2, 32, 2) := by kernel_rfl
theorem ag29 : agk Try.prog 29 = some false := by kernel_rfl
theorem sz29 : szk Try.prog 29 = some 1 := by kernel_rfl
theorem zr29 : zrk Try.prog 29 = some ([.int .i64 0]) := by kernel_rfl
theorem ty29 : tyr Try.prog 29 = some (1, 8, 1) := by kernel_rfl
theorem ag34 : agk Try.prog 34 = some false := by kernel_rfl
theorem sz34 : szk Try.prog 34 = some 1 := by kernel_rfl
theorem zr34 : zrk Try.prog 34 = some ([.int .u32 0]) := by kernel_rfl
theorem ty34 : tyr Try.prog 34 = some (1, 4, 1) := by kernel_rfl
theorem ag36 : agk Try.prog 36 = some true := by kernel_rfl
theorem sz36 : szk Try.prog 36 = some 6 := by kernel_rfl
theorem zr36 : zrk Try.prog 36 = some ([.int .i64 0, .int .u8 0, .slice none 0 0, .int .i64 0, .int .i64 0, .int .u32 0]) := by kernel_rfl
theorem ty36 : tyr Try.prog 36 = some (6, 64, 6) := by kernel_rfl
theorem ag47 : agk Try.prog 47 = some false := by kernel_rfl
theorem sz47 : szk Try.prog 47 = some 1 := by kernel_rfl
theorem zr47 : zrk Try.prog 47 = some ([.int .u16 0]) := by kernel_rfl
theorem ty47 : tyr Try.prog 47 = some (1, 2, 1) := by kernel_rfl
theorem ag51 : agk Try.prog 51 = some false := by kernel_rfl
theorem sz51 : szk Try.prog 51 = some 1 := by kernel_rfl
theorem zr51 : zrk Try.prog 51 = some ([.slice none 0 0]) := by kernel_rfl
theorem ty51 : tyr Try.prog 51 = some (1, 24, 1) := by kernel_rfl
theorem ag53 : agk Try.prog 53 = some false := by kernel_rfl
theorem sz53 : szk Try.prog 53 = some 1 := by kernel_rfl
theorem zr53 : zrk Try.prog 53 = some ([.pointer none]) := by kernel_rfl
theorem ty53 : tyr Try.prog 53 = some (1, 8, 1) := by kernel_rfl
theorem ag55 : agk Try.prog 55 = some true := by kernel_rfl
theorem sz55 : szk Try.prog 55 = some 1 := by kernel_rfl
theorem zr55 : zrk Try.prog 55 = some ([.slice none 0 0]) := by kernel_rfl
theorem ty55 : tyr Try.prog 55 = some (1, 24, 1) := by kernel_rfl
theorem ag59 : agk Try.prog 59 = some false := by kernel_rfl
theorem sz59 : szk Try.prog 59 = some 1 := by kernel_rfl
theorem zr59 : zrk Try.prog 59 = some ([.slice none 0 0]) := by kernel_rfl
theorem ty59 : tyr Try.prog 59 = some (1, 24, 1) := by kernel_rfl
theorem ag62 : agk Try.prog 62 = some false := by kernel_rfl
theorem sz62 : szk Try.prog 62 = some 1 := by kernel_rfl
theorem zr62 : zrk Try.prog 62 = some ([.pointer none]) := by kernel_rfl
theorem ty62 : tyr Try.prog 62 = some (1, 8, 1) := by kernel_rfl
theorem ag68 : agk Try.prog 68 = some true := by kernel_rfl
theorem sz68 : szk Try.prog 68 = some 6 := by kernel_rfl
theorem zr68 : zrk Try.prog 68 = some ([.bool false, .bool false, .int .i64 0, .int .i64 0, .int .i64 0, .int .i64 0]) := by kernel_rfl
theorem ty68 : tyr Try.prog 68 = some (6, 40, 6) := by kernel_rfl
theorem ag69 : agk Try.prog 69 = some true := by kernel_rfl
theorem sz69 : szk Try.prog 69 = some 12 := by kernel_rfl
theorem zr69 : zrk Try.prog 69 = some ([.bool false, .bool false, .int .i64 0, .int .i64 0, .int .i64 0, .int .i64 0, .bool false, .bool false, .int .i64 0, .int .i64 0, .int .i64 0, .int .i64 0]) := by kernel_rfl
theorem ty69 : tyr Try.prog 69 = some (12, 80, 12) := by kernel_rfl
theorem ag75 : agk Try.prog 75 = some false := by kernel_rfl
theorem sz75 : szk Try.prog 75 = some 1 := by kernel_rfl
theorem zr75 : zrk Try.prog 75 = some ([.slice none 0 0]) := by kernel_rfl
theorem ty75 : tyr Try.prog 75 = some (1, 24, 1) := by kernel_rfl
theorem ag77 : agk Try.prog 77 = some false := by kernel_rfl
theorem sz77 : szk Try.prog 77 = some 1 := by kernel_rfl
theorem zr77 : zrk Try.prog 77 = some ([.pointer none]) := by kernel_rfl
theorem ty77 : tyr Try.prog 77 = some (1, 8, 1) := by kernel_rfl
theorem ag80 : agk Try.prog 80 = some true := by kernel_rfl
theorem sz80 : szk Try.prog 80 = some 6 := by kernel_rfl
theorem zr80 : zrk Try.prog 80 = some ([.int .i64 0, .int .i64 0, .int .i64 0, .int .i64 0, .int .i64 0, .slice none 0 0]) := by kernel_rfl
theorem ty80 : tyr Try.prog 80 = some (6, 64, 6) := by kernel_rfl
theorem ag85 : agk Try.prog 85 = some false := by kernel_rfl
theorem sz85 : szk Try.prog 85 = some 1 := by kernel_rfl
theorem zr85 : zrk Try.prog 85 = some ([.slice none 0 0]) := by kernel_rfl
theorem ty85 : tyr Try.prog 85 = some (1, 24, 1) := by kernel_rfl
theorem ag89 : agk Try.prog 89 = some true := by kernel_rfl
theorem sz89 : szk Try.prog 89 = some 9 := by kernel_rfl
theorem zr89 : zrk Try.prog 89 = some ([.slice none 0 0, .slice none 0 0, .bool false, .bool false, .int .i64 0, .int .i64 0, .int .i64 0, .bool false, .bool false]) := by kernel_rfl
theorem ty89 : tyr Try.prog 89 = some (9, 88, 9) := by kernel_rfl
theorem ag90 : agk Try.prog 90 = some false := by kernel_rfl
theorem sz90 : szk Try.prog 90 = some 1 := by kernel_rfl
theorem zr90 : zrk Try.prog 90 = some ([.slice none 0 0]) := by kernel_rfl
theorem ty90 : tyr Try.prog 90 = some (1, 24, 1) := by kernel_rfl
theorem ag92 : agk Try.prog 92 = some true := by kernel_rfl
theorem sz92 : szk Try.prog 92 = some 1 := by kernel_rfl
theorem zr92 : zrk Try.prog 92 = some ([.slice none 0 0]) := by kernel_rfl
theorem ty92 : tyr Try.prog 92 = some (1, 24, 1) := by kernel_rfl
theorem ag94 : agk Try.prog 94 = some true := by kernel_rfl
theorem sz94 : szk Try.prog 94 = some 2 := by kernel_rfl
theorem zr94 : zrk Try.prog 94 = some ([.string ⟨#[]⟩, .string ⟨#[]⟩]) := by kernel_rfl
theorem ty94 : tyr Try.prog 94 = some (2, 32, 2) := by kernel_rfl
theorem ag95 : agk Try.prog 95 = some true := by kernel_rfl
theorem sz95 : szk Try.prog 95 = some 2 := by kernel_rfl
theorem zr95 : zrk Try.prog 95 = some ([.int .i64 0, .int .i64 0]) := by kernel_rfl
theorem ty95 : tyr Try.prog 95 = some (2, 16, 2) := by kernel_rfl
theorem ag96 : agk Try.prog 96 = some true := by kernel_rfl
theorem sz96 : szk Try.prog 96 = some 2 := by kernel_rfl
theorem zr96 : zrk Try.prog 96 = some ([.bool false, .bool false]) := by kernel_rfl
theorem ty96 : tyr Try.prog 96 = some (2, 2, 2) := by kernel_rfl
theorem ag114 : agk Try.prog 114 = some true := by kernel_rfl
theorem sz114 : szk Try.prog 114 = some 10 := by kernel_rfl
theorem zr114 : zrk Try.prog 114 = some ([.slice none 0 0, .int .i64 0, .slice none 0 0, .int .i64 0, .int .i64 0, .int .i64 0, .int .i64 0, .int .i64 0, .bool false, .bool false]) := by kernel_rfl
theorem ty114 : tyr Try.prog 114 = some (10, 104, 10) := by kernel_rfl
theorem ag115 : agk Try.prog 115 = some true := by kernel_rfl
theorem sz115 : szk Try.prog 115 = some 20 := by kernel_rfl
theorem zr115 : zrk Try.prog 115 = some ([.slice none 0 0, .int .i64 0, .slice none 0 0, .int .i64 0, .int .i64 0, .int .i64 0, .int .i64 0, .int .i64 0, .bool false, .bool false, .slice none 0 0, .int .i64 0, .slice none 0 0, .int .i64 0, .int .i64 0, .int .i64 0, .int .i64 0, .int .i64 0, .bool false, .bool false]) := by kernel_rfl
theorem ty115 : tyr Try.prog 115 = some (20, 208, 20) := by kernel_rfl
theorem ag117 : agk Try.prog 117 = some true := by kernel_rfl
theorem sz117 : szk Try.prog 117 = some 21 := by kernel_rfl
theorem zr117 : zrk Try.prog 117 = some ([.slice none 0 0, .int .i64 0, .slice none 0 0, .int .i64 0, .int .i64 0, .int .i64 0, .int .i64 0, .int .i64 0, .bool false, .bool false, .slice none 0 0, .int .i64 0, .slice none 0 0, .int .i64 0, .int .i64 0, .int .i64 0, .int .i64 0, .int .i64 0, .bool false, .bool false, .bool false]) := by kernel_rfl
theorem ty117 : tyr Try.prog 117 = some (21, 216, 21) := by kernel_rfl
theorem ag118 : agk Try.prog 118 = some false := by kernel_rfl
theorem sz118 : szk Try.prog 118 = some 1 := by kernel_rfl
theorem zr118 : zrk Try.prog 118 = some ([.pointer none]) := by kernel_rfl
theorem ty118 : tyr Try.prog 118 = some (1, 8, 1) := by kernel_rfl
theorem ag125 : agk Try.prog 125 = some true := by kernel_rfl
theorem sz125 : szk Try.prog 125 = some 5 := by kernel_rfl
theorem zr125 : zrk Try.prog 125 = some ([.bool false, .bool false, .int .i64 0, .int .i64 0, .int .i64 0]) := by kernel_rfl
theorem ty125 : tyr Try.prog 125 = some (5, 32, 5) := by kernel_rfl
theorem ag134 : agk Try.prog 134 = some false := by kernel_rfl
theorem sz134 : szk Try.prog 134 = some 1 := by kernel_rfl
theorem zr134 : zrk Try.prog 134 = some ([.pointer none]) := by kernel_rfl
theorem ty134 : tyr Try.prog 134 = some (1, 8, 1) := by kernel_rfl
theorem fk14 : fnk Try.prog 14 = true := by kernel_rfl
theorem fk15 : fnk Try.prog 15 = true := by kernel_rfl
theorem fk16 : fnk Try.prog 16 = true := by kernel_rfl
theorem fk17 : fnk Try.prog 17 = true := by kernel_rfl
theorem fk18 : fnk Try.prog 18 = true := by kernel_rfl
theorem fk19 : fnk Try.prog 19 = true := by kernel_rfl
theorem fk20 : fnk Try.prog 20 = true := by kernel_rfl
theorem fk21 : fnk Try.prog 21 = true := by kernel_rfl
theorem fk22 : fnk Try.prog 22 = true := by kernel_rfl
theorem fk23 : fnk Try.prog 23 = true := by kernel_rfl
theorem fk24 : fnk Try.prog 24 = true := by kernel_rfl
theorem fk25 : fnk Try.prog 25 = true := by kernel_rfl
theorem fk26 : fnk Try.prog 26 = true := by kernel_rfl
theorem fk27 : fnk Try.prog 27 = true := by kernel_rfl
theorem fk28 : fnk Try.prog 28 = true := by kernel_rfl
theorem fk29 : fnk Try.prog 29 = true := by kernel_rfl
theorem fk30 : fnk Try.prog 30 = true := by kernel_rfl
theorem fk31 : fnk Try.prog 31 = true := by kernel_rfl
theorem fk32 : fnk Try.prog 32 = true := by kernel_rfl
theorem fk33 : fnk Try.prog 33 = true := by kernel_rfl
theorem fk34 : fnk Try.prog 34 = true := by kernel_rfl
theorem fk35 : fnk Try.prog 35 = true := by kernel_rfl
theorem fk36 : fnk Try.prog 36 = true := by kernel_rfl
theorem fk37 : fnk Try.prog 37 = true := by kernel_rfl
theorem fk38 : fnk Try.prog 38 = true := by kernel_rfl
theorem fk39 : fnk Try.prog 39 = true := by kernel_rfl
theorem fk40 : fnk Try.prog 40 = true := by kernel_rfl
theorem fk41 : fnk Try.prog 41 = true := by kernel_rfl
theorem fk42 : fnk Try.prog 42 = true := by kernel_rfl
theorem fk43 : fnk Try.prog 43 = true := by kernel_rfl
theorem fk44 : fnk Try.prog 44 = true := by kernel_rfl
theorem fk45 : fnk Try.prog 45 = true := by kernel_rfl
theorem fk46 : fnk Try.prog 46 = true := by kernel_rfl
theorem fk47 : fnk Try.prog 47 = true := by kernel_rfl
theorem fk48 : fnk Try.prog 48 = true := by kernel_rfl
theorem fk49 : fnk Try.prog 49 = true := by kernel_rfl
theorem fk50 : fnk Try.prog 50 = true := by kernel_rfl
theorem fk51 : fnk Try.prog 51 = true := by kernel_rfl
theorem fk52 : fnk Try.prog 52 = true := by kernel_rfl
theorem fk53 : fnk Try.prog 53 = true := by kernel_rfl
theorem fk54 : fnk Try.prog 54 = true := by kernel_rfl
theorem fk55 : fnk Try.prog 55 = true := by kernel_rfl
theorem fk56 : fnk Try.prog 56 = true := by kernel_rfl
theorem fk57 : fnk Try.prog 57 = true := by kernel_rfl
theorem fk59 : fnk Try.prog 59 = true := by kernel_rfl
theorem fk60 : fnk Try.prog 60 = true := by kernel_rfl
theorem fk61 : fnk Try.prog 61 = true := by kernel_rfl
theorem fk62 : fnk Try.prog 62 = true := by kernel_rfl
theorem fk63 : fnk Try.prog 63 = true := by kernel_rfl
theorem fk64 : fnk Try.prog 64 = true := by kernel_rfl
theorem fk65 : fnk Try.prog 65 = true := by kernel_rfl
theorem fk66 : fnk Try.prog 66 = true := by kernel_rfl
theorem fk67 : fnk Try.prog 67 = true := by kernel_rfl
theorem fk68 : fnk Try.prog 68 = true := by kernel_rfl
theorem fk69 : fnk Try.prog 69 = true := by kernel_rfl
theorem fk70 : fnk Try.prog 70 = true := by kernel_rfl
theorem fk71 : fnk Try.prog 71 = true := by kernel_rfl
theorem fk72 : fnk Try.prog 72 = true := by kernel_rfl
theorem fk73 : fnk Try.prog 73 = true := by kernel_rfl
theorem fk74 : fnk Try.prog 74 = true := by kernel_rfl
theorem fk76 : fnk Try.prog 76 = true := by kernel_rfl
theorem fk78 : fnk Try.prog 78 = true := by kernel_rfl
theorem fk79 : fnk Try.prog 79 = true := by kernel_rfl
theorem fk80 : fnk Try.prog 80 = true := by kernel_rfl
theorem fk81 : fnk Try.prog 81 = true := by kernel_rfl
theorem fk83 : fnk Try.prog 83 = true := by kernel_rfl
theorem mixed : Try.prog.follows .mixedOrders = true := by kernel_rfl
theorem bd3_25  : Try.prog.built 27 [] = some #[.slice none 0 0, .int .i64 0] := by kernel_rfl
theorem bd6_31  : Try.prog.built 27 [] = some #[.slice none 0 0, .int .i64 0] := by kernel_rfl
theorem bd6_33  : Try.prog.built 27 [] = some #[.slice none 0 0, .int .i64 0] := by kernel_rfl
theorem bs7_70  : bltS Try.prog 22 1 [(0, .int .u8 10)] = some (5, [.int .u8 10]) := by kernel_rfl
theorem bd8_11  : Try.prog.built 27 [] = some #[.slice none 0 0, .int .i64 0] := by kernel_rfl
theorem bd8_13  : Try.prog.built 27 [] = some #[.slice none 0 0, .int .i64 0] := by kernel_rfl
theorem bd8_15  : Try.prog.built 55 [] = some #[.slice none 0 0] := by kernel_rfl
theorem bd8_17  : Try.prog.built 55 [] = some #[.slice none 0 0] := by kernel_rfl
theorem bs9_73  : bltS Try.prog 22 3 [(0, .int .u8 108), (1, .int .u8 10), (2, .int .u8 109)] = some (5, [.int .u8 108, .int .u8 10, .int .u8 109]) := by kernel_rfl
theorem bs9_182  : bltS Try.prog 22 1 [(0, .int .u8 1)] = some (5, [.int .u8 1]) := by kernel_rfl
theorem bs10_18  : bltS Try.prog 22 6 [(0, .int .u8 97), (1, .int .u8 98), (2, .int .u8 99), (3, .int .u8 100), (4, .int .u8 101), (5, .int .u8 102)] = some (5, [.int .u8 97, .int .u8 98, .int .u8 99, .int .u8 100, .int .u8 101, .int .u8 102]) := by kernel_rfl
theorem bs10_35  : bltS Try.prog 22 1 [(0, .int .u8 120)] = some (5, [.int .u8 120]) := by kernel_rfl
theorem bd10_60  : Try.prog.built 68 [(5, .int .i64 2), (1, .bool true)] = some #[.bool false, .bool true, .int .i64 0, .int .i64 0, .int .i64 0, .int .i64 2] := by kernel_rfl
theorem bd10_61  : Try.prog.built 68 [(4, .int .i64 2), (0, .bool true), (2, .int .i64 17)] = some #[.bool true, .bool false, .int .i64 17, .int .i64 0, .int .i64 2, .int .i64 0] := by kernel_rfl
theorem bd10_62 (x1 : Bool) (x2 : Bool) (x3 : Int) (x4 : Int) (x5 : Int) (x6 : Int) (x7 : Bool) (x8 : Bool) (x9 : Int) (x10 : Int) (x11 : Int) (x12 : Int) : Try.prog.built 69 [(0, .agg #[.bool x1, .bool x2, .int .i64 x3, .int .i64 x4, .int .i64 x5, .int .i64 x6]), (1, .agg #[.bool x7, .bool x8, .int .i64 x9, .int .i64 x10, .int .i64 x11, .int .i64 x12])] = some #[.bool x1, .bool x2, .int .i64 x3, .int .i64 x4, .int .i64 x5, .int .i64 x6, .bool x7, .bool x8, .int .i64 x9, .int .i64 x10, .int .i64 x11, .int .i64 x12] := by kernel_rfl
theorem bd10_72  : Try.prog.built 69 [] = some #[.bool false, .bool false, .int .i64 0, .int .i64 0, .int .i64 0, .int .i64 0, .bool false, .bool false, .int .i64 0, .int .i64 0, .int .i64 0, .int .i64 0] := by kernel_rfl
theorem bd10_117  : Try.prog.built 69 [] = some #[.bool false, .bool false, .int .i64 0, .int .i64 0, .int .i64 0, .int .i64 0, .bool false, .bool false, .int .i64 0, .int .i64 0, .int .i64 0, .int .i64 0] := by kernel_rfl
theorem bd10_129  : Try.prog.built 69 [] = some #[.bool false, .bool false, .int .i64 0, .int .i64 0, .int .i64 0, .int .i64 0, .bool false, .bool false, .int .i64 0, .int .i64 0, .int .i64 0, .int .i64 0] := by kernel_rfl
theorem bs15_31 (x1 : Option Addr) (x2 : Nat) (x3 : Nat) : bltS Try.prog 25 1 [(0, .slice x1 x2 x3)] = some (22, [.slice x1 x2 x3]) := by kernel_rfl
theorem bs15_38 (x4 : Option Addr) (x5 : Nat) (x6 : Nat) : bltS Try.prog 25 1 [(0, .slice x4 x5 x6)] = some (22, [.slice x4 x5 x6]) := by kernel_rfl
theorem bs16_30 (x1 : Option Addr) (x2 : Nat) (x3 : Nat) : bltS Try.prog 25 1 [(0, .slice x1 x2 x3)] = some (22, [.slice x1 x2 x3]) := by kernel_rfl
theorem bs19_73 (x1 : Option Addr) (x2 : Nat) (x3 : Nat) : bltS Try.prog 25 1 [(0, .slice x1 x2 x3)] = some (22, [.slice x1 x2 x3]) := by kernel_rfl
theorem bs21_48 (x1 : Option Addr) (x2 : Nat) (x3 : Nat) : bltS Try.prog 25 1 [(0, .slice x1 x2 x3)] = some (22, [.slice x1 x2 x3]) := by kernel_rfl
theorem bs25_9  : bltS Try.prog 22 1 [(0, .int .u8 10)] = some (5, [.int .u8 10]) := by kernel_rfl
theorem bd28_2  : Try.prog.built 27 [] = some #[.slice none 0 0, .int .i64 0] := by kernel_rfl
theorem bs28_5  : bltS Try.prog 22 2 [(0, .int .u8 97), (1, .int .u8 98)] = some (5, [.int .u8 97, .int .u8 98]) := by kernel_rfl
theorem bs28_9  : bltS Try.prog 22 2 [(0, .int .u8 99), (1, .int .u8 100)] = some (5, [.int .u8 99, .int .u8 100]) := by kernel_rfl
theorem bs28_13  : bltS Try.prog 22 1 [(0, .int .u8 120)] = some (5, [.int .u8 120]) := by kernel_rfl
theorem bs30_13 (x1 : Int) : bltS Try.prog 59 1 [(0, .int .i64 x1)] = some (3, [.int .i64 x1]) := by kernel_rfl
theorem bd32_2  : Try.prog.built 117 [(1, .bool true)] = some #[.slice none 0 0, .int .i64 0, .slice none 0 0, .int .i64 0, .int .i64 0, .int .i64 0, .int .i64 0, .int .i64 0, .bool false, .bool false, .slice none 0 0, .int .i64 0, .slice none 0 0, .int .i64 0, .int .i64 0, .int .i64 0, .int .i64 0, .int .i64 0, .bool false, .bool false, .bool true] := by kernel_rfl
theorem bd39_15  : Try.prog.built 69 [] = some #[.bool false, .bool false, .int .i64 0, .int .i64 0, .int .i64 0, .int .i64 0, .bool false, .bool false, .int .i64 0, .int .i64 0, .int .i64 0, .int .i64 0] := by kernel_rfl
theorem bs41_9  : bltS Try.prog 22 6 [(0, .int .u8 97), (1, .int .u8 98), (2, .int .u8 99), (3, .int .u8 100), (4, .int .u8 101), (5, .int .u8 102)] = some (5, [.int .u8 97, .int .u8 98, .int .u8 99, .int .u8 100, .int .u8 101, .int .u8 102]) := by kernel_rfl
theorem bd41_24  : Try.prog.built 69 [] = some #[.bool false, .bool false, .int .i64 0, .int .i64 0, .int .i64 0, .int .i64 0, .bool false, .bool false, .int .i64 0, .int .i64 0, .int .i64 0, .int .i64 0] := by kernel_rfl
theorem bd41_37  : Try.prog.built 68 [(5, .int .i64 4)] = some #[.bool false, .bool false, .int .i64 0, .int .i64 0, .int .i64 0, .int .i64 4] := by kernel_rfl
theorem bd41_38  : Try.prog.built 68 [(4, .int .i64 4), (0, .bool true)] = some #[.bool true, .bool false, .int .i64 0, .int .i64 0, .int .i64 4, .int .i64 0] := by kernel_rfl
theorem bd41_39 (x1 : Bool) (x2 : Bool) (x3 : Int) (x4 : Int) (x5 : Int) (x6 : Int) (x7 : Bool) (x8 : Bool) (x9 : Int) (x10 : Int) (x11 : Int) (x12 : Int) : Try.prog.built 69 [(0, .agg #[.bool x1, .bool x2, .int .i64 x3, .int .i64 x4, .int .i64 x5, .int .i64 x6]), (1, .agg #[.bool x7, .bool x8, .int .i64 x9, .int .i64 x10, .int .i64 x11, .int .i64 x12])] = some #[.bool x1, .bool x2, .int .i64 x3, .int .i64 x4, .int .i64 x5, .int .i64 x6, .bool x7, .bool x8, .int .i64 x9, .int .i64 x10, .int .i64 x11, .int .i64 x12] := by kernel_rfl
theorem bd43_1  : Try.prog.built 89 [(3, .bool true)] = some #[.slice none 0 0, .slice none 0 0, .bool false, .bool true, .int .i64 0, .int .i64 0, .int .i64 0, .bool false, .bool false] := by kernel_rfl
theorem bd43_2  : Try.prog.built 89 [(3, .bool true)] = some #[.slice none 0 0, .slice none 0 0, .bool false, .bool true, .int .i64 0, .int .i64 0, .int .i64 0, .bool false, .bool false] := by kernel_rfl
theorem bs43_3 (x1 : Option Addr) (x2 : Nat) (x3 : Nat) (x4 : Option Addr) (x5 : Nat) (x6 : Nat) (x7 : Bool) (x8 : Bool) (x9 : Int) (x10 : Int) (x11 : Int) (x12 : Bool) (x13 : Bool) (x14 : Option Addr) (x15 : Nat) (x16 : Nat) (x17 : Option Addr) (x18 : Nat) (x19 : Nat) (x20 : Bool) (x21 : Bool) (x22 : Int) (x23 : Int) (x24 : Int) (x25 : Bool) (x26 : Bool) : bltS Try.prog 90 2 [(0, .agg #[.slice x1 x2 x3, .slice x4 x5 x6, .bool x7, .bool x8, .int .i64 x9, .int .i64 x10, .int .i64 x11, .bool x12, .bool x13]), (1, .agg #[.slice x14 x15 x16, .slice x17 x18 x19, .bool x20, .bool x21, .int .i64 x22, .int .i64 x23, .int .i64 x24, .bool x25, .bool x26])] = some (89, [.slice x1 x2 x3, .slice x4 x5 x6, .bool x7, .bool x8, .int .i64 x9, .int .i64 x10, .int .i64 x11, .bool x12, .bool x13, .slice x14 x15 x16, .slice x17 x18 x19, .bool x20, .bool x21, .int .i64 x22, .int .i64 x23, .int .i64 x24, .bool x25, .bool x26]) := by kernel_rfl
theorem bd43_4 (x27 : Option Addr) (x28 : Nat) (x29 : Nat) : Try.prog.built 92 [(0, .slice x27 x28 x29)] = some #[.slice x27 x28 x29] := by kernel_rfl
theorem bs55_5  : bltS Try.prog 22 0 [] = some (5, []) := by kernel_rfl
theorem bs57_33 (x1 : Option Addr) (x2 : Nat) (x3 : Nat) : bltS Try.prog 25 1 [(0, .slice x1 x2 x3)] = some (22, [.slice x1 x2 x3]) := by kernel_rfl
theorem bs60_5  : bltS Try.prog 25 0 [] = some (22, []) := by kernel_rfl
theorem bs61_11  : bltS Try.prog 22 0 [] = some (5, []) := by kernel_rfl
theorem bs68_9  : bltS Try.prog 22 1 [(0, .int .u8 10)] = some (5, [.int .u8 10]) := by kernel_rfl
end Fx
end Go.Proofs.Ytgifpkpkkgkfeaa
