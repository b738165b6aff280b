/-
  Facts of the seat's program: its types, which functions have a body, what is built.
-/
import Derived.Test.YtmpemhbfgbochaaRows
import Derived.Test.YtmpemhbfgbochaaRxA
import Derived.Test.YtmpemhbfgbochaaRxS
import Derived.Test.YtmpemhbfgbochaaRxP
import Derived.Test.YtmpemhbfgbochaaRxH
import Derived.Test.YtmpemhbfgbochaaRxM
namespace Go.Proofs.Ytmpemhbfgbochaa
set_option linter.unusedSimpArgs false
set_option linter.unusedVariables false
set_option linter.unnecessarySimpa false
open Go.RX
namespace Fx
theorem ag3 : agk Try.prog 3 = some false := by kernel_rfl
theorem sz3 : szk Try.prog 3 = some 1 := by kernel_rfl
theorem zr3 : zrk Try.prog 3 = some ([.int .i64 0]) := by kernel_rfl
theorem ty3 : tyr Try.prog 3 = some (1, 8, 1) := by kernel_rfl
theorem ag4 : agk Try.prog 4 = some false := by kernel_rfl
theorem sz4 : szk Try.prog 4 = some 1 := by kernel_rfl
theorem zr4 : zrk Try.prog 4 = some ([.bool false]) := by kernel_rfl
theorem ty4 : tyr Try.prog 4 = some (1, 1, 1) := by kernel_rfl
theorem ag5 : agk Try.prog 5 = some false := by kernel_rfl
theorem sz5 : szk Try.prog 5 = some 1 := by kernel_rfl
theorem zr5 : zrk Try.prog 5 = some ([.int .u8 0]) := by kernel_rfl
theorem ty5 : tyr Try.prog 5 = some (1, 1, 1) := by kernel_rfl
theorem ag9 : agk Try.prog 9 = some false := by kernel_rfl
theorem sz9 : szk Try.prog 9 = some 1 := by kernel_rfl
theorem zr9 : zrk Try.prog 9 = some ([.string ⟨#[]⟩]) := by kernel_rfl
theorem ty9 : tyr Try.prog 9 = some (1, 16, 1) := by kernel_rfl
theorem ag22 : agk Try.prog 22 = some false := by kernel_rfl
theorem sz22 : szk Try.prog 22 = some 1 := by kernel_rfl
theorem zr22 : zrk Try.prog 22 = some ([.slice none 0 0]) := by kernel_rfl
theorem ty22 : tyr Try.prog 22 = some (1, 24, 1) := by kernel_rfl
theorem ag25 : agk Try.prog 25 = some false := by kernel_rfl
theorem sz25 : szk Try.prog 25 = some 1 := by kernel_rfl
theorem zr25 : zrk Try.prog 25 = some ([.pointer none]) := by kernel_rfl
theorem ty25 : tyr Try.prog 25 = some (1, 8, 1) := by kernel_rfl
theorem ag27 : agk Try.prog 27 = some false := by kernel_rfl
theorem sz27 : szk Try.prog 27 = some 1 := by kernel_rfl
theorem zr27 : zrk Try.prog 27 = some ([.int .i64 0]) := by kernel_rfl
theorem ty27 : tyr Try.prog 27 = some (1, 8, 1) := by kernel_rfl
theorem ag30 : agk Try.prog 30 = some false := by kernel_rfl
theorem sz30 : szk Try.prog 30 = some 1 := by kernel_rfl
theorem zr30 : zrk Try.prog 30 = some ([.pointer none]) := by kernel_rfl
theorem ty30 : tyr Try.prog 30 = some (1, 8, 1) := by kernel_rfl
theorem ag35 : agk Try.prog 35 = some false := by kernel_rfl
theorem sz35 : szk Try.prog 35 = some 1 := by kernel_rfl
theorem zr35 : zrk Try.prog 35 = some ([.int .u64 0]) := by kernel_rfl
theorem ty35 : tyr Try.prog 35 = some (1, 8, 1) := by kernel_rfl
theorem ag36 : agk Try.prog 36 = some false := by kernel_rfl
theorem sz36 : szk Try.prog 36 = some 1 := by kernel_rfl
theorem zr36 : zrk Try.prog 36 = some ([.pointer none]) := by kernel_rfl
theorem ty36 : tyr Try.prog 36 = some (1, 8, 1) := by kernel_rfl
theorem ag38 : agk Try.prog 38 = some true := by kernel_rfl
theorem sz38 : szk Try.prog 38 = some 3 := by kernel_rfl
theorem zr38 : zrk Try.prog 38 = some ([.pointer none, .string ⟨#[]⟩, .string ⟨#[]⟩]) := by kernel_rfl
theorem ty38 : tyr Try.prog 38 = some (3, 40, 3) := by kernel_rfl
theorem ag39 : agk Try.prog 39 = some false := by kernel_rfl
theorem sz39 : szk Try.prog 39 = some 1 := by kernel_rfl
theorem zr39 : zrk Try.prog 39 = some ([.slice none 0 0]) := by kernel_rfl
theorem ty39 : tyr Try.prog 39 = some (1, 24, 1) := by kernel_rfl
theorem ag41 : agk Try.prog 41 = some true := by kernel_rfl
theorem sz41 : szk Try.prog 41 = some 5 := by kernel_rfl
theorem zr41 : zrk Try.prog 41 = some ([.int .i64 0, .int .i64 0, .int .i64 0, .int .u64 0, .slice none 0 0]) := by kernel_rfl
theorem ty41 : tyr Try.prog 41 = some (5, 56, 5) := by kernel_rfl
theorem ag43 : agk Try.prog 43 = some true := by kernel_rfl
theorem sz43 : szk Try.prog 43 = some 13 := by kernel_rfl
theorem zr43 : zrk Try.prog 43 = some ([.int .i64 0, .int .u64 0, .int .i64 0, .int .i64 0, .int .i64 0, .int .u64 0, .int .u64 0, .slice none 0 0, .int .i64 0, .int .i64 0, .int .i64 0, .int .u64 0, .slice none 0 0]) := by kernel_rfl
theorem ty43 : tyr Try.prog 43 = some (13, 136, 13) := by kernel_rfl
theorem ag49 : agk Try.prog 49 = some true := by kernel_rfl
theorem sz49 : szk Try.prog 49 = some 6 := by kernel_rfl
theorem zr49 : zrk Try.prog 49 = some ([.bool false, .bool false, .int .i64 0, .int .i64 0, .int .i64 0, .int .i64 0]) := by kernel_rfl
theorem ty49 : tyr Try.prog 49 = some (6, 40, 6) := by kernel_rfl
theorem ag58 : agk Try.prog 58 = some true := by kernel_rfl
theorem sz58 : szk Try.prog 58 = some 2 := by kernel_rfl
theorem zr58 : zrk Try.prog 58 = some ([.string ⟨#[]⟩, .string ⟨#[]⟩]) := by kernel_rfl
theorem ty58 : tyr Try.prog 58 = some (2, 32, 2) := by kernel_rfl
theorem ag59 : agk Try.prog 59 = some true := by kernel_rfl
theorem sz59 : szk Try.prog 59 = some 2 := by kernel_rfl
theorem zr59 : zrk Try.prog 59 = some ([.int .i64 0, .int .i64 0]) := by kernel_rfl
theorem ty59 : tyr Try.prog 59 = some (2, 16, 2) := by kernel_rfl
theorem ag60 : agk Try.prog 60 = some true := by kernel_rfl
theorem sz60 : szk Try.prog 60 = some 4 := by kernel_rfl
theorem zr60 : zrk Try.prog 60 = some ([.int .i64 0, .int .i64 0, .int .i64 0, .int .i64 0]) := by kernel_rfl
theorem ty60 : tyr Try.prog 60 = some (4, 32, 4) := by kernel_rfl
theorem ag69 : agk Try.prog 69 = some false := by kernel_rfl
theorem sz69 : szk Try.prog 69 = some 1 := by kernel_rfl
theorem zr69 : zrk Try.prog 69 = some ([.slice none 0 0]) := by kernel_rfl
theorem ty69 : tyr Try.prog 69 = some (1, 24, 1) := by kernel_rfl
theorem ag71 : agk Try.prog 71 = some false := by kernel_rfl
theorem sz71 : szk Try.prog 71 = some 1 := by kernel_rfl
theorem zr71 : zrk Try.prog 71 = some ([.pointer none]) := by kernel_rfl
theorem ty71 : tyr Try.prog 71 = some (1, 8, 1) := by kernel_rfl
theorem ag74 : agk Try.prog 74 = some true := by kernel_rfl
theorem sz74 : szk Try.prog 74 = some 3 := by kernel_rfl
theorem zr74 : zrk Try.prog 74 = some ([.bool false, .int .i64 0, .int .i64 0]) := by kernel_rfl
theorem ty74 : tyr Try.prog 74 = some (3, 24, 3) := by kernel_rfl
theorem ag75 : agk Try.prog 75 = some true := by kernel_rfl
theorem sz75 : szk Try.prog 75 = some 288 := by kernel_rfl
theorem zr75 : zrk Try.prog 75 = some ([.bool false, .int .i64 0, .int .i64 0, .bool false, .int .i64 0, .int .i64 0, .bool false, .int .i64 0, .int .i64 0, .bool false, .int .i64 0, .int .i64 0, .bool false, .int .i64 0, .int .i64 0, .bool false, .int .i64 0, .int .i64 0, .bool false, .int .i64 0, .int .i64 0, .bool false, .int .i64 0, .int .i64 0, .bool false, .int .i64 0, .int .i64 0, .bool false, .int .i64 0, .int .i64 0, .bool false, .int .i64 0, .int .i64 0, .bool false, .int .i64 0, .int .i64 0, .bool false, .int .i64 0, .int .i64 0, .bool false, .int .i64 0, .int .i64 0, .bool false, .int .i64 0, .int .i64 0, .bool false, .int .i64 0, .int .i64 0, .bool false, .int .i64 0, .int .i64 0, .bool false, .int .i64 0, .int .i64 0, .bool false, .int .i64 0, .int .i64 0, .bool false, .int .i64 0, .int .i64 0, .bool false, .int .i64 0, .int .i64 0, .bool false, .int .i64 0, .int .i64 0, .bool false, .int .i64 0, .int .i64 0, .bool false, .int .i64 0, .int .i64 0, .bool false, .int .i64 0, .int .i64 0, .bool false, .int .i64 0, .int .i64 0, .bool false, .int .i64 0, .int .i64 0, .bool false, .int .i64 0, .int .i64 0, .bool false, .int .i64 0, .int .i64 0, .bool false, .int .i64 0, .int .i64 0, .bool false, .int .i64 0, .int .i64 0, .bool false, .int .i64 0, .int .i64 0, .bool false, .int .i64 0, .int .i64 0, .bool false, .int .i64 0, .int .i64 0, .bool false, .int .i64 0, .int .i64 0, .bool false, .int .i64 0, .int .i64 0, .bool false, .int .i64 0, .int .i64 0, .bool false, .int .i64 0, .int .i64 0, .bool false, .int .i64 0, .int .i64 0, .bool false, .int .i64 0, .int .i64 0, .bool false, .int .i64 0, .int .i64 0, .bool false, .int .i64 0, .int .i64 0, .bool false, .int .i64 0, .int .i64 0, .bool false, .int .i64 0, .int .i64 0, .bool false, .int .i64 0, .int .i64 0, .bool false, .int .i64 0, .int .i64 0, .bool false, .int .i64 0, .int .i64 0, .bool false, .int .i64 0, .int .i64 0, .bool false, .int .i64 0, .int .i64 0, .bool false, .int .i64 0, .int .i64 0, .bool false, .int .i64 0, .int .i64 0, .bool false, .int .i64 0, .int .i64 0, .bool false, .int .i64 0, .int .i64 0, .bool false, .int .i64 0, .int .i64 0, .bool false, .int .i64 0, .int .i64 0, .bool false, .int .i64 0, .int .i64 0, .bool false, .int .i64 0, .int .i64 0, .bool false, .int .i64 0, .int .i64 0, .bool false, .int .i64 0, .int .i64 0, .bool false, .int .i64 0, .int .i64 0, .bool false, .int .i64 0, .int .i64 0, .bool false, .int .i64 0, .int .i64 0, .bool false, .int .i64 0, .int .i64 0, .bool false, .int .i64 0, .int .i64 0, .bool false, .int .i64 0, .int .i64 0, .bool false, .int .i64 0, .int .i64 0, .bool false, .int .i64 0, .int .i64 0, .bool false, .int .i64 0, .int .i64 0, .bool false, .int .i64 0, .int .i64 0, .bool false, .int .i64 0, .int .i64 0, .bool false, .int .i64 0, .int .i64 0, .bool false, .int .i64 0, .int .i64 0, .bool false, .int .i64 0, .int .i64 0, .bool false, .int .i64 0, .int .i64 0, .bool false, .int .i64 0, .int .i64 0, .bool false, .int .i64 0, .int .i64 0, .bool false, .int .i64 0, .int .i64 0, .bool false, .int .i64 0, .int .i64 0, .bool false, .int .i64 0, .int .i64 0, .bool false, .int .i64 0, .int .i64 0, .bool false, .int .i64 0, .int .i64 0, .bool false, .int .i64 0, .int .i64 0, .bool false, .int .i64 0, .int .i64 0, .bool false, .int .i64 0, .int .i64 0, .bool false, .int .i64 0, .int .i64 0, .bool false, .int .i64 0, .int .i64 0, .bool false, .int .i64 0, .int .i64 0, .bool false, .int .i64 0, .int .i64 0, .bool false, .int .i64 0, .int .i64 0, .bool false, .int .i64 0, .int .i64 0, .bool false, .int .i64 0, .int .i64 0, .bool false, .int .i64 0, .int .i64 0, .bool false, .int .i64 0, .int .i64 0, .bool false, .int .i64 0, .int .i64 0, .bool false, .int .i64 0, .int .i64 0, .bool false, .int .i64 0, .int .i64 0]) := by kernel_rfl
theorem ty75 : tyr Try.prog 75 = some (288, 2304, 288) := by kernel_rfl
theorem ag76 : agk Try.prog 76 = some false := by kernel_rfl
theorem sz76 : szk Try.prog 76 = some 1 := by kernel_rfl
theorem zr76 : zrk Try.prog 76 = some ([.slice none 0 0]) := by kernel_rfl
theorem ty76 : tyr Try.prog 76 = some (1, 24, 1) := by kernel_rfl
theorem ag78 : agk Try.prog 78 = some true := by kernel_rfl
theorem sz78 : szk Try.prog 78 = some 294 := by kernel_rfl
theorem zr78 : zrk Try.prog 78 = some ([.bool false, .int .i64 0, .int .i64 0, .bool false, .int .i64 0, .int .i64 0, .bool false, .int .i64 0, .int .i64 0, .bool false, .int .i64 0, .int .i64 0, .bool false, .int .i64 0, .int .i64 0, .bool false, .int .i64 0, .int .i64 0, .bool false, .int .i64 0, .int .i64 0, .bool false, .int .i64 0, .int .i64 0, .bool false, .int .i64 0, .int .i64 0, .bool false, .int .i64 0, .int .i64 0, .bool false, .int .i64 0, .int .i64 0, .bool false, .int .i64 0, .int .i64 0, .bool false, .int .i64 0, .int .i64 0, .bool false, .int .i64 0, .int .i64 0, .bool false, .int .i64 0, .int .i64 0, .bool false, .int .i64 0, .int .i64 0, .bool false, .int .i64 0, .int .i64 0, .bool false, .int .i64 0, .int .i64 0, .bool false, .int .i64 0, .int .i64 0, .bool false, .int .i64 0, .int .i64 0, .bool false, .int .i64 0, .int .i64 0, .bool false, .int .i64 0, .int .i64 0, .bool false, .int .i64 0, .int .i64 0, .bool false, .int .i64 0, .int .i64 0, .bool false, .int .i64 0, .int .i64 0, .bool false, .int .i64 0, .int .i64 0, .bool false, .int .i64 0, .int .i64 0, .bool false, .int .i64 0, .int .i64 0, .bool false, .int .i64 0, .int .i64 0, .bool false, .int .i64 0, .int .i64 0, .bool false, .int .i64 0, .int .i64 0, .bool false, .int .i64 0, .int .i64 0, .bool false, .int .i64 0, .int .i64 0, .bool false, .int .i64 0, .int .i64 0, .bool false, .int .i64 0, .int .i64 0, .bool false, .int .i64 0, .int .i64 0, .bool false, .int .i64 0, .int .i64 0, .bool false, .int .i64 0, .int .i64 0, .bool false, .int .i64 0, .int .i64 0, .bool false, .int .i64 0, .int .i64 0, .bool false, .int .i64 0, .int .i64 0, .bool false, .int .i64 0, .int .i64 0, .bool false, .int .i64 0, .int .i64 0, .bool false, .int .i64 0, .int .i64 0, .bool false, .int .i64 0, .int .i64 0, .bool false, .int .i64 0, .int .i64 0, .bool false, .int .i64 0, .int .i64 0, .bool false, .int .i64 0, .int .i64 0, .bool false, .int .i64 0, .int .i64 0, .bool false, .int .i64 0, .int .i64 0, .bool false, .int .i64 0, .int .i64 0, .bool false, .int .i64 0, .int .i64 0, .bool false, .int .i64 0, .int .i64 0, .bool false, .int .i64 0, .int .i64 0, .bool false, .int .i64 0, .int .i64 0, .bool false, .int .i64 0, .int .i64 0, .bool false, .int .i64 0, .int .i64 0, .bool false, .int .i64 0, .int .i64 0, .bool false, .int .i64 0, .int .i64 0, .bool false, .int .i64 0, .int .i64 0, .bool false, .int .i64 0, .int .i64 0, .bool false, .int .i64 0, .int .i64 0, .bool false, .int .i64 0, .int .i64 0, .bool false, .int .i64 0, .int .i64 0, .bool false, .int .i64 0, .int .i64 0, .bool false, .int .i64 0, .int .i64 0, .bool false, .int .i64 0, .int .i64 0, .bool false, .int .i64 0, .int .i64 0, .bool false, .int .i64 0, .int .i64 0, .bool false, .int .i64 0, .int .i64 0, .bool false, .int .i64 0, .int .i64 0, .bool false, .int .i64 0, .int .i64 0, .bool false, .int .i64 0, .int .i64 0, .bool false, .int .i64 0, .int .i64 0, .bool false, .int .i64 0, .int .i64 0, .bool false, .int .i64 0, .int .i64 0, .bool false, .int .i64 0, .int .i64 0, .bool false, .int .i64 0, .int .i64 0, .bool false, .int .i64 0, .int .i64 0, .bool false, .int .i64 0, .int .i64 0, .bool false, .int .i64 0, .int .i64 0, .bool false, .int .i64 0, .int .i64 0, .bool false, .int .i64 0, .int .i64 0, .bool false, .int .i64 0, .int .i64 0, .bool false, .int .i64 0, .int .i64 0, .bool false, .int .i64 0, .int .i64 0, .bool false, .int .i64 0, .int .i64 0, .bool false, .int .i64 0, .int .i64 0, .bool false, .int .i64 0, .int .i64 0, .bool false, .int .i64 0, .int .i64 0, .bool false, .int .i64 0, .int .i64 0, .bool false, .int .i64 0, .int .i64 0, .bool false, .int .i64 0, .int .i64 0, .bool false, .int .i64 0, .int .i64 0, .bool false, .int .i64 0, .int .i64 0, .bool false, .int .i64 0, .int .i64 0, .slice none 0 0, .pointer none, .int .u64 0, .bool false, .int .i64 0, .int .i64 0]) := by kernel_rfl
theorem ty78 : tyr Try.prog 78 = some (294, 2368, 294) := by kernel_rfl
theorem ag79 : agk Try.prog 79 = some false := by kernel_rfl
theorem sz79 : szk Try.prog 79 = some 1 := by kernel_rfl
theorem zr79 : zrk Try.prog 79 = some ([.slice none 0 0]) := by kernel_rfl
theorem ty79 : tyr Try.prog 79 = some (1, 24, 1) := by kernel_rfl
theorem ag82 : agk Try.prog 82 = some false := by kernel_rfl
theorem sz82 : szk Try.prog 82 = some 1 := by kernel_rfl
theorem zr82 : zrk Try.prog 82 = some ([.pointer none]) := by kernel_rfl
theorem ty82 : tyr Try.prog 82 = some (1, 8, 1) := by kernel_rfl
theorem ag85 : agk Try.prog 85 = some true := by kernel_rfl
theorem sz85 : szk Try.prog 85 = some 7 := by kernel_rfl
theorem zr85 : zrk Try.prog 85 = some ([.bool false, .bool false, .bool false, .bool false, .bool false, .int .u64 0, .int .u64 0]) := by kernel_rfl
theorem ty85 : tyr Try.prog 85 = some (7, 24, 7) := by kernel_rfl
theorem ag87 : agk Try.prog 87 = some false := by kernel_rfl
theorem sz87 : szk Try.prog 87 = some 1 := by kernel_rfl
theorem zr87 : zrk Try.prog 87 = some ([.slice none 0 0]) := by kernel_rfl
theorem ty87 : tyr Try.prog 87 = some (1, 24, 1) := by kernel_rfl
theorem ag89 : agk Try.prog 89 = some true := by kernel_rfl
theorem sz89 : szk Try.prog 89 = some 2 := by kernel_rfl
theorem zr89 : zrk Try.prog 89 = some ([.slice none 0 0, .int .i64 0]) := by kernel_rfl
theorem ty89 : tyr Try.prog 89 = some (2, 32, 2) := by kernel_rfl
theorem ag91 : agk Try.prog 91 = some true := by kernel_rfl
theorem sz91 : szk Try.prog 91 = some 8 := by kernel_rfl
theorem zr91 : zrk Try.prog 91 = some ([.slice none 0 0, .int .i64 0, .bool false, .bool false, .int .i64 0, .int .i64 0, .int .u64 0, .int .u64 0]) := by kernel_rfl
theorem ty91 : tyr Try.prog 91 = some (8, 72, 8) := by kernel_rfl
theorem ag92 : agk Try.prog 92 = some true := by kernel_rfl
theorem sz92 : szk Try.prog 92 = some 16 := by kernel_rfl
theorem zr92 : zrk Try.prog 92 = some ([.slice none 0 0, .int .i64 0, .bool false, .bool false, .int .i64 0, .int .i64 0, .int .u64 0, .int .u64 0, .slice none 0 0, .int .i64 0, .bool false, .bool false, .int .i64 0, .int .i64 0, .int .u64 0, .int .u64 0]) := by kernel_rfl
theorem ty92 : tyr Try.prog 92 = some (16, 144, 16) := by kernel_rfl
theorem ag94 : agk Try.prog 94 = some true := by kernel_rfl
theorem sz94 : szk Try.prog 94 = some 18 := by kernel_rfl
theorem zr94 : zrk Try.prog 94 = some ([.pointer none, .int .i64 0, .slice none 0 0, .int .i64 0, .bool false, .bool false, .int .i64 0, .int .i64 0, .int .u64 0, .int .u64 0, .slice none 0 0, .int .i64 0, .bool false, .bool false, .int .i64 0, .int .i64 0, .int .u64 0, .int .u64 0]) := by kernel_rfl
theorem ty94 : tyr Try.prog 94 = some (18, 160, 18) := by kernel_rfl
theorem ag98 : agk Try.prog 98 = some false := by kernel_rfl
theorem sz98 : szk Try.prog 98 = some 1 := by kernel_rfl
theorem zr98 : zrk Try.prog 98 = some ([.pointer none]) := by kernel_rfl
theorem ty98 : tyr Try.prog 98 = some (1, 8, 1) := by kernel_rfl
theorem ag101 : agk Try.prog 101 = some false := by kernel_rfl
theorem sz101 : szk Try.prog 101 = some 1 := by kernel_rfl
theorem zr101 : zrk Try.prog 101 = some ([.pointer none]) := by kernel_rfl
theorem ty101 : tyr Try.prog 101 = some (1, 8, 1) := by kernel_rfl
theorem ag106 : agk Try.prog 106 = some false := by kernel_rfl
theorem sz106 : szk Try.prog 106 = some 1 := by kernel_rfl
theorem zr106 : zrk Try.prog 106 = some ([.pointer none]) := by kernel_rfl
theorem ty106 : tyr Try.prog 106 = some (1, 8, 1) := by kernel_rfl
theorem ag108 : agk Try.prog 108 = some true := by kernel_rfl
theorem sz108 : szk Try.prog 108 = some 7 := by kernel_rfl
theorem zr108 : zrk Try.prog 108 = some ([.int .i64 0, .int .i64 0, .pointer none, .bool false, .bool false, .int .u64 0, .int .u64 0]) := by kernel_rfl
theorem ty108 : tyr Try.prog 108 = some (7, 48, 7) := by kernel_rfl
theorem ag109 : agk Try.prog 109 = some true := by kernel_rfl
theorem sz109 : szk Try.prog 109 = some 14 := by kernel_rfl
theorem zr109 : zrk Try.prog 109 = some ([.int .i64 0, .int .i64 0, .pointer none, .bool false, .bool false, .int .u64 0, .int .u64 0, .int .i64 0, .int .i64 0, .pointer none, .bool false, .bool false, .int .u64 0, .int .u64 0]) := by kernel_rfl
theorem ty109 : tyr Try.prog 109 = some (14, 96, 14) := by kernel_rfl
theorem ag111 : agk Try.prog 111 = some true := by kernel_rfl
theorem sz111 : szk Try.prog 111 = some 17 := by kernel_rfl
theorem zr111 : zrk Try.prog 111 = some ([.int .i64 0, .int .i64 0, .pointer none, .bool false, .bool false, .int .u64 0, .int .u64 0, .int .i64 0, .int .i64 0, .pointer none, .bool false, .bool false, .int .u64 0, .int .u64 0, .bool false, .int .i64 0, .slice none 0 0]) := by kernel_rfl
theorem ty111 : tyr Try.prog 111 = some (17, 136, 17) := by kernel_rfl
theorem ag118 : agk Try.prog 118 = some true := by kernel_rfl
theorem sz118 : szk Try.prog 118 = some 64 := by kernel_rfl
theorem zr118 : zrk Try.prog 118 = some (List.replicate 32 (.bool false) ++ List.replicate 32 (.int .i64 0)) := by kernel_rfl
theorem ty118 : tyr Try.prog 118 = some (64, 288, 64) := by kernel_rfl
theorem ag126 : agk Try.prog 126 = some false := by kernel_rfl
theorem sz126 : szk Try.prog 126 = some 1 := by kernel_rfl
theorem zr126 : zrk Try.prog 126 = some ([.pointer none]) := by kernel_rfl
theorem ty126 : tyr Try.prog 126 = some (1, 8, 1) := by kernel_rfl
theorem ag140 : agk Try.prog 140 = some true := by kernel_rfl
theorem sz140 : szk Try.prog 140 = some 6 := by kernel_rfl
theorem zr140 : zrk Try.prog 140 = some ([.slice none 0 0, .int .i64 0, .int .i64 0, .int .u64 0, .int .u64 0, .bool false]) := by kernel_rfl
theorem ty140 : tyr Try.prog 140 = some (6, 64, 6) := by kernel_rfl
theorem eqt49 : EqT Try.prog 49 [.bool, .bool, .int .i64, .int .i64, .int .i64, .int .i64] 6 := ⟨by kernel_rfl, by kernel_rfl, by kernel_rfl, by kernel_rfl, by kernel_rfl⟩
theorem fk8 : fnk Try.prog 8 = true := by kernel_rfl
theorem fk9 : fnk Try.prog 9 = true := by kernel_rfl
theorem fk10 : fnk Try.prog 10 = true := by kernel_rfl
theorem fk11 : fnk Try.prog 11 = true := by kernel_rfl
theorem fk12 : fnk Try.prog 12 = true := by kernel_rfl
theorem fk13 : fnk Try.prog 13 = true := by kernel_rfl
theorem fk14 : fnk Try.prog 14 = true := by kernel_rfl
theorem fk15 : fnk Try.prog 15 = true := by kernel_rfl
theorem fk16 : fnk Try.prog 16 = true := by kernel_rfl
theorem fk17 : fnk Try.prog 17 = true := by kernel_rfl
theorem fk18 : fnk Try.prog 18 = true := by kernel_rfl
theorem fk19 : fnk Try.prog 19 = true := by kernel_rfl
theorem fk20 : fnk Try.prog 20 = true := by kernel_rfl
theorem fk21 : fnk Try.prog 21 = true := by kernel_rfl
theorem fk22 : fnk Try.prog 22 = true := by kernel_rfl
theorem fk23 : fnk Try.prog 23 = true := by kernel_rfl
theorem fk24 : fnk Try.prog 24 = true := by kernel_rfl
theorem fk25 : fnk Try.prog 25 = true := by kernel_rfl
theorem fk26 : fnk Try.prog 26 = true := by kernel_rfl
theorem fk27 : fnk Try.prog 27 = true := by kernel_rfl
theorem fk28 : fnk Try.prog 28 = true := by kernel_rfl
theorem fk29 : fnk Try.prog 29 = true := by kernel_rfl
theorem fk30 : fnk Try.prog 30 = true := by kernel_rfl
theorem fk31 : fnk Try.prog 31 = true := by kernel_rfl
theorem fk32 : fnk Try.prog 32 = true := by kernel_rfl
theorem fk33 : fnk Try.prog 33 = true := by kernel_rfl
theorem fk34 : fnk Try.prog 34 = true := by kernel_rfl
theorem fk35 : fnk Try.prog 35 = true := by kernel_rfl
theorem fk36 : fnk Try.prog 36 = true := by kernel_rfl
theorem fk37 : fnk Try.prog 37 = true := by kernel_rfl
theorem fk38 : fnk Try.prog 38 = true := by kernel_rfl
theorem fk39 : fnk Try.prog 39 = true := by kernel_rfl
theorem fk40 : fnk Try.prog 40 = true := by kernel_rfl
theorem fk41 : fnk Try.prog 41 = true := by kernel_rfl
theorem fk42 : fnk Try.prog 42 = true := by kernel_rfl
theorem fk43 : fnk Try.prog 43 = true := by kernel_rfl
theorem fk44 : fnk Try.prog 44 = true := by kernel_rfl
theorem fk45 : fnk Try.prog 45 = true := by kernel_rfl
theorem fk46 : fnk Try.prog 46 = true := by kernel_rfl
theorem fk47 : fnk Try.prog 47 = true := by kernel_rfl
theorem fk48 : fnk Try.prog 48 = true := by kernel_rfl
theorem fk49 : fnk Try.prog 49 = true := by kernel_rfl
theorem fk50 : fnk Try.prog 50 = true := by kernel_rfl
theorem fk51 : fnk Try.prog 51 = true := by kernel_rfl
theorem fk52 : fnk Try.prog 52 = true := by kernel_rfl
theorem fk53 : fnk Try.prog 53 = true := by kernel_rfl
theorem fk54 : fnk Try.prog 54 = true := by kernel_rfl
theorem fk55 : fnk Try.prog 55 = true := by kernel_rfl
theorem fk56 : fnk Try.prog 56 = true := by kernel_rfl
theorem fk57 : fnk Try.prog 57 = true := by kernel_rfl
theorem fk59 : fnk Try.prog 59 = true := by kernel_rfl
theorem fk60 : fnk Try.prog 60 = true := by kernel_rfl
theorem fk61 : fnk Try.prog 61 = true := by kernel_rfl
theorem fk62 : fnk Try.prog 62 = true := by kernel_rfl
theorem fk63 : fnk Try.prog 63 = true := by kernel_rfl
theorem fk64 : fnk Try.prog 64 = true := by kernel_rfl
theorem fk65 : fnk Try.prog 65 = true := by kernel_rfl
theorem fk66 : fnk Try.prog 66 = true := by kernel_rfl
theorem fk67 : fnk Try.prog 67 = true := by kernel_rfl
theorem fk68 : fnk Try.prog 68 = true := by kernel_rfl
theorem fk69 : fnk Try.prog 69 = true := by kernel_rfl
theorem fk70 : fnk Try.prog 70 = true := by kernel_rfl
theorem fk71 : fnk Try.prog 71 = true := by kernel_rfl
theorem fk72 : fnk Try.prog 72 = true := by kernel_rfl
theorem fk73 : fnk Try.prog 73 = true := by kernel_rfl
theorem fk74 : fnk Try.prog 74 = true := by kernel_rfl
theorem fk75 : fnk Try.prog 75 = true := by kernel_rfl
theorem fk77 : fnk Try.prog 77 = true := by kernel_rfl
theorem fk78 : fnk Try.prog 78 = true := by kernel_rfl
theorem mixed : Try.prog.follows .mixedOrders = true := by kernel_rfl
theorem bd3_72 (x1 : Option Addr) : Try.prog.built 38 [(0, .pointer x1)] = some #[.pointer x1, .string ⟨#[]⟩, .string ⟨#[]⟩] := by kernel_rfl
theorem bs4_40  : bltS Try.prog 39 1 [(0, .int .u8 97)] = some (5, [.int .u8 97]) := by kernel_rfl
theorem bd4_101 (x1 : Int) : Try.prog.built 49 [(2, .int .i64 x1)] = some #[.bool false, .bool false, .int .i64 x1, .int .i64 0, .int .i64 0, .int .i64 0] := by kernel_rfl
theorem bd4_106  : Try.prog.built 49 [] = some #[.bool false, .bool false, .int .i64 0, .int .i64 0, .int .i64 0, .int .i64 0] := by kernel_rfl
theorem bd5_96 (x1 : Int) (x2 : Int) : Try.prog.built 59 [(0, .int .i64 x1), (1, .int .i64 x2)] = some #[.int .i64 x1, .int .i64 x2] := by kernel_rfl
theorem bs6_37  : bltS Try.prog 39 3 [(0, .int .u8 97), (1, .int .u8 98), (2, .int .u8 99)] = some (5, [.int .u8 97, .int .u8 98, .int .u8 99]) := by kernel_rfl
theorem bs6_43  : bltS Try.prog 39 4 [(0, .int .u8 100), (1, .int .u8 101), (2, .int .u8 102), (3, .int .u8 103)] = some (5, [.int .u8 100, .int .u8 101, .int .u8 102, .int .u8 103]) := by kernel_rfl
theorem bd6_53  : Try.prog.built 49 [(0, .bool true), (4, .int .i64 1)] = some #[.bool true, .bool false, .int .i64 0, .int .i64 0, .int .i64 1, .int .i64 0] := by kernel_rfl
theorem bs6_65  : bltS Try.prog 39 3 [(0, .int .u8 120), (1, .int .u8 121), (2, .int .u8 122)] = some (5, [.int .u8 120, .int .u8 121, .int .u8 122]) := by kernel_rfl
theorem bd6_82  : Try.prog.built 49 [(5, .int .i64 2)] = some #[.bool false, .bool false, .int .i64 0, .int .i64 0, .int .i64 0, .int .i64 2] := by kernel_rfl
theorem bd6_87  : Try.prog.built 49 [(1, .bool true), (5, .int .i64 1)] = some #[.bool false, .bool true, .int .i64 0, .int .i64 0, .int .i64 0, .int .i64 1] := by kernel_rfl
theorem bd6_129  : Try.prog.built 49 [(2, .int .i64 17)] = some #[.bool false, .bool false, .int .i64 17, .int .i64 0, .int .i64 0, .int .i64 0] := by kernel_rfl
theorem bd6_181  : Try.prog.built 49 [] = some #[.bool false, .bool false, .int .i64 0, .int .i64 0, .int .i64 0, .int .i64 0] := by kernel_rfl
theorem bd6_187  : Try.prog.built 49 [] = some #[.bool false, .bool false, .int .i64 0, .int .i64 0, .int .i64 0, .int .i64 0] := by kernel_rfl
theorem bd7_53 (x1 : Option Addr) : Try.prog.built 38 [(0, .pointer x1)] = some #[.pointer x1, .string ⟨#[]⟩, .string ⟨#[]⟩] := by kernel_rfl
theorem bd7_192  : Try.prog.built 49 [] = some #[.bool false, .bool false, .int .i64 0, .int .i64 0, .int .i64 0, .int .i64 0] := by kernel_rfl
theorem bs8_21  : bltS Try.prog 39 3 [(0, .int .u8 97), (1, .int .u8 98), (2, .int .u8 99)] = some (5, [.int .u8 97, .int .u8 98, .int .u8 99]) := by kernel_rfl
theorem bd8_44  : Try.prog.built 49 [(0, .bool true), (4, .int .i64 3)] = some #[.bool true, .bool false, .int .i64 0, .int .i64 0, .int .i64 3, .int .i64 0] := by kernel_rfl
theorem bd12_18 (x1 : Option Addr) (x2 : Int) : Try.prog.built 94 [(0, .pointer x1), (1, .int .i64 x2)] = some #[.pointer x1, .int .i64 x2, .slice none 0 0, .int .i64 0, .bool false, .bool false, .int .i64 0, .int .i64 0, .int .u64 0, .int .u64 0, .slice none 0 0, .int .i64 0, .bool false, .bool false, .int .i64 0, .int .i64 0, .int .u64 0, .int .u64 0] := by kernel_rfl
theorem bd27_22  : Try.prog.built 74 [] = some #[.bool false, .int .i64 0, .int .i64 0] := by kernel_rfl
theorem bd34_5  : Try.prog.built 111 [] = some #[.int .i64 0, .int .i64 0, .pointer none, .bool false, .bool false, .int .u64 0, .int .u64 0, .int .i64 0, .int .i64 0, .pointer none, .bool false, .bool false, .int .u64 0, .int .u64 0, .bool false, .int .i64 0, .slice none 0 0] := by kernel_rfl
theorem bd35_20  : Try.prog.built 85 [] = some #[.bool false, .bool false, .bool false, .bool false, .bool false, .int .u64 0, .int .u64 0] := by kernel_rfl
theorem bd35_40 (x1 : Int) (x2 : Int) : Try.prog.built 85 [(0, .bool true), (5, .int .u64 x1), (6, .int .u64 x2)] = some #[.bool true, .bool false, .bool false, .bool false, .bool false, .int .u64 x1, .int .u64 x2] := by kernel_rfl
theorem bs44_73 (x1 : Option Addr) (x2 : Nat) (x3 : Nat) : bltS Try.prog 87 1 [(0, .slice x1 x2 x3)] = some (39, [.slice x1 x2 x3]) := by kernel_rfl
theorem bd46_10  : Try.prog.built 74 [] = some #[.bool false, .int .i64 0, .int .i64 0] := by kernel_rfl
theorem bd46_28  : Try.prog.built 74 [] = some #[.bool false, .int .i64 0, .int .i64 0] := by kernel_rfl
theorem bs53_17 (x1 : Int) : bltS Try.prog 79 1 [(0, .int .i64 x1)] = some (3, [.int .i64 x1]) := by kernel_rfl
theorem bd54_36 (x1 : Int) (x2 : Int) : Try.prog.built 74 [(0, .bool true), (1, .int .i64 x1), (2, .int .i64 x2)] = some #[.bool true, .int .i64 x1, .int .i64 x2] := by kernel_rfl
theorem bs54_47 (x3 : Option Addr) : bltS Try.prog 76 1 [(0, .pointer x3)] = some (82, [.pointer x3]) := by kernel_rfl
theorem bd55_12 (x1 : Option Addr) (x2 : Nat) (x3 : Nat) : Try.prog.built 140 [(0, .slice x1 x2 x3), (5, .bool true)] = some #[.slice x1 x2 x3, .int .i64 0, .int .i64 0, .int .u64 0, .int .u64 0, .bool true] := by kernel_rfl
theorem bs61_33 (x1 : Option Addr) (x2 : Nat) (x3 : Nat) : bltS Try.prog 87 1 [(0, .slice x1 x2 x3)] = some (39, [.slice x1 x2 x3]) := by kernel_rfl
theorem bs67_5  : bltS Try.prog 39 0 [] = some (5, []) := by kernel_rfl
theorem bs74_5  : bltS Try.prog 87 0 [] = some (39, []) := by kernel_rfl
end Fx
end Go.Proofs.Ytmpemhbfgbochaa
