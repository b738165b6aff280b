/-
  No cell of these rows narrows 'for every input' (looked for: loops, veiled, ifaces, maps, wideKeys, modest, calm, conditions, laid).
  DERIVED. THE GIVEN ROWS OF THIS SEAT. 6 by the template 'for every input the law returns true; each argument reads behind the call as it read before'; 0 by the template 'total and deterministic' (their statements: YtdjoofidicoimaaTotals.lean).
  GIVEN WITH THE SEED: the statements are not yours to turn. If you find one false, say at which input.
  Laid BY PROGRAM, IN A SANDBOX (cutbox-rows.mjs): the forced cells as the released guide's own fill.sh prints them over the translation 661e3671d2e1439a… (all of the seat's roots in one cut). By AI agents, Wed Nov 11 2026. No macro, syntax, notation, axiom, sorry.
-/
import Derived.Test.YtdjoofidicoimaaChecked
import GoSem.Claim
import GoSem.ClaimJoined
import GoSem.ClaimMapViews
import Derived.JoinedTies
import Derived.KernelRfl
namespace Go.Proofs.Ytdjoofidicoimaa
/- THE CELL 'sum', in the pinned program and in every row, IS THE sha256 OF THE DUMP (.gsa) THAT YtdjoofidicoimaaProg.lean LOADS. Nothing in Lean hashes anything: it is a label: what it is worth is what the hold of that sum in a sandbox is worth. -/
noncomputable def Try.pinned : Pinned := { name := "ytdjoofidicoimaa", sum := "661e3671d2e1439a02c7d8481a4ea02a0138dad60084863322726975dd771b8b", checked := Try.checked }
namespace Rows
def none {H : Type} : Left H := { results := [], args := [] }

/-- 'roundhouselaw22.TimerWaits': WHATEVER THE INPUT: true; the input reads as it did. -/
def timerWaitsSpec : ChangeSpec := { name := "timerWaits", fn := fun _ => fun
  | [d1, d2, d3] => { results := [.lit (.bool true)], args := [d1, d2, d3] }
  | _ => none }
def timerWaitsRow : OpenClaim := { program := "ytdjoofidicoimaa", sum := "661e3671d2e1439a02c7d8481a4ea02a0138dad60084863322726975dd771b8b", func := "roundhouse/roundhouselaw22.TimerWaits", spec := "timerWaits", unfollowed := true, recurses := true, apart := false }
def TimerWaitsSaid : Prop := timerWaitsRow.holds Try.pinned (OpenSpec.ofChange timerWaitsSpec)

/-- ITS FALSE NEIGHBOUR: 'it returns false'. Refute it at one input. -/
def timerWaitsWrong : ChangeSpec := { name := "timerWaits", fn := fun _ => fun
  | [d1, d2, d3] => { results := [.lit (.bool false)], args := [d1, d2, d3] }
  | _ => none }
def TimerWaitsWrongFalsely : Prop := timerWaitsRow.holds Try.pinned (OpenSpec.ofChange timerWaitsWrong)

/-- 'roundhouselaw22.TimerOnce': WHATEVER THE INPUT: true; the input reads as it did. -/
def timerOnceSpec : ChangeSpec := { name := "timerOnce", fn := fun _ => fun
  | [d] => { results := [.lit (.bool true)], args := [d] }
  | _ => none }
def timerOnceRow : OpenClaim := { program := "ytdjoofidicoimaa", sum := "661e3671d2e1439a02c7d8481a4ea02a0138dad60084863322726975dd771b8b", func := "roundhouse/roundhouselaw22.TimerOnce", spec := "timerOnce", unfollowed := true, recurses := true, apart := false }
def TimerOnceSaid : Prop := timerOnceRow.holds Try.pinned (OpenSpec.ofChange timerOnceSpec)

/-- ITS FALSE NEIGHBOUR: 'it returns false'. Refute it at one input. -/
def timerOnceWrong : ChangeSpec := { name := "timerOnce", fn := fun _ => fun
  | [d] => { results := [.lit (.bool false)], args := [d] }
  | _ => none }
def TimerOnceWrongFalsely : Prop := timerOnceRow.holds Try.pinned (OpenSpec.ofChange timerOnceWrong)

/-- 'roundhouselaw22.TimerLeft': WHATEVER THE INPUT: true; the input reads as it did. -/
def timerLeftSpec : ChangeSpec := { name := "timerLeft", fn := fun _ => fun
  | [d1, d2, d3, d4] => { results := [.lit (.bool true)], args := [d1, d2, d3, d4] }
  | _ => none }
def timerLeftRow : OpenClaim := { program := "ytdjoofidicoimaa", sum := "661e3671d2e1439a02c7d8481a4ea02a0138dad60084863322726975dd771b8b", func := "roundhouse/roundhouselaw22.TimerLeft", spec := "timerLeft", unfollowed := true, recurses := true, apart := false }
def TimerLeftSaid : Prop := timerLeftRow.holds Try.pinned (OpenSpec.ofChange timerLeftSpec)

/-- ITS FALSE NEIGHBOUR: 'it returns false'. Refute it at one input. -/
def timerLeftWrong : ChangeSpec := { name := "timerLeft", fn := fun _ => fun
  | [d1, d2, d3, d4] => { results := [.lit (.bool false)], args := [d1, d2, d3, d4] }
  | _ => none }
def TimerLeftWrongFalsely : Prop := timerLeftRow.holds Try.pinned (OpenSpec.ofChange timerLeftWrong)

/-- 'roundhouselaw22.TimerNames': WHATEVER THE INPUT: true; the input reads as it did. -/
def timerNamesSpec : ChangeSpec := { name := "timerNames", fn := fun _ => fun
  | [] => { results := [.lit (.bool true)], args := [] }
  | _ => none }
def timerNamesRow : OpenClaim := { program := "ytdjoofidicoimaa", sum := "661e3671d2e1439a02c7d8481a4ea02a0138dad60084863322726975dd771b8b", func := "roundhouse/roundhouselaw22.TimerNames", spec := "timerNames", unfollowed := true, recurses := true, apart := false }
def TimerNamesSaid : Prop := timerNamesRow.holds Try.pinned (OpenSpec.ofChange timerNamesSpec)

/-- ITS FALSE NEIGHBOUR: 'it returns false'. Refute it at one input. -/
def timerNamesWrong : ChangeSpec := { name := "timerNames", fn := fun _ => fun
  | [] => { results := [.lit (.bool false)], args := [] }
  | _ => none }
def TimerNamesWrongFalsely : Prop := timerNamesRow.holds Try.pinned (OpenSpec.ofChange timerNamesWrong)

/-- 'roundhouselaw22.TimerCommon': WHATEVER THE INPUT: true; the input reads as it did. -/
def timerCommonSpec : ChangeSpec := { name := "timerCommon", fn := fun _ => fun
  | [d1, d2] => { results := [.lit (.bool true)], args := [d1, d2] }
  | _ => none }
def timerCommonRow : OpenClaim := { program := "ytdjoofidicoimaa", sum := "661e3671d2e1439a02c7d8481a4ea02a0138dad60084863322726975dd771b8b", func := "roundhouse/roundhouselaw22.TimerCommon", spec := "timerCommon", unfollowed := true, recurses := true, apart := false }
def TimerCommonSaid : Prop := timerCommonRow.holds Try.pinned (OpenSpec.ofChange timerCommonSpec)

/-- ITS FALSE NEIGHBOUR: 'it returns false'. Refute it at one input. -/
def timerCommonWrong : ChangeSpec := { name := "timerCommon", fn := fun _ => fun
  | [d1, d2] => { results := [.lit (.bool false)], args := [d1, d2] }
  | _ => none }
def TimerCommonWrongFalsely : Prop := timerCommonRow.holds Try.pinned (OpenSpec.ofChange timerCommonWrong)

/-- 'roundhouselaw22.TimerPlays': WHATEVER THE INPUT: true; the input reads as it did. -/
def timerPlaysSpec : ChangeSpec := { name := "timerPlays", fn := fun _ => fun
  | [d] => { results := [.lit (.bool true)], args := [d] }
  | _ => none }
def timerPlaysRow : OpenClaim := { program := "ytdjoofidicoimaa", sum := "661e3671d2e1439a02c7d8481a4ea02a0138dad60084863322726975dd771b8b", func := "roundhouse/roundhouselaw22.TimerPlays", spec := "timerPlays", unfollowed := true, recurses := true, apart := false }
def TimerPlaysSaid : Prop := timerPlaysRow.holds Try.pinned (OpenSpec.ofChange timerPlaysSpec)

/-- ITS FALSE NEIGHBOUR: 'it returns false'. Refute it at one input. -/
def timerPlaysWrong : ChangeSpec := { name := "timerPlays", fn := fun _ => fun
  | [d] => { results := [.lit (.bool false)], args := [d] }
  | _ => none }
def TimerPlaysWrongFalsely : Prop := timerPlaysRow.holds Try.pinned (OpenSpec.ofChange timerPlaysWrong)

/- THE SECOND FORM. 'bulk': how many values and letters a reading holds, each counted each time it is reached (what is shared counts as often as it is met; a slice's spare places count too). A statement '..UptoSaid' is the law's where the arguments, and the package variables that the reading takes, are together of bulk at most 1048576: NARROWER than '..Said'. Prove '..Said' where nothing that the law and all that it calls make is longer than what came in: it says more and counts as full. Else prove '..UptoSaid'. A law counts once. -/
mutual
def uptoBulk {H : Type} : DataW H → Nat
  | .lit (.string bytes) => bytes.length + 1
  | .lit _ => 1
  | .nil => 1
  | .ptr d => uptoBulk d + 1
  | .slice elems spare => uptoBulkAll elems + uptoBulkAll spare + 1
  | .agg parts => uptoBulkAll parts + 1
  | .iface _ d => uptoBulk d + 1
  | .map entries => uptoBulkEntries entries + 1
  | .held _ => 1
def uptoBulkAll {H : Type} : List (DataW H) → Nat
  | [] => 0
  | d :: r => uptoBulk d + uptoBulkAll r
def uptoBulkEntries {H : Type} : List (Lit × DataW H) → Nat
  | [] => 0
  | x :: r => uptoBulkEntry x + uptoBulkEntries r
def uptoBulkEntry {H : Type} : Lit × DataW H → Nat
  | (.string bytes, d) => bytes.length + uptoBulk d + 1
  | (_, d) => uptoBulk d + 1
 end
def uptoSmall : (H : Type) → List (DataW H) → Bool := fun _ ds => decide (uptoBulkAll ds ≤ 1048576)
def OpenSpec.upto (s : _root_.Go.ChangeSpec) : _root_.Go.OpenSpec := { _root_.Go.OpenSpec.ofChange s with cond := some uptoSmall }

/-- 'roundhouselaw22.TimerWaits', WHERE WHAT IT READS IS OF BULK AT MOST 1048576: true; the input reads as it did. -/
def timerWaitsUptoRow : OpenClaim := { program := "ytdjoofidicoimaa", sum := "661e3671d2e1439a02c7d8481a4ea02a0138dad60084863322726975dd771b8b", func := "roundhouse/roundhouselaw22.TimerWaits", spec := "timerWaits", unfollowed := true, recurses := true, apart := false, narrowed := true }
def TimerWaitsUptoSaid : Prop := timerWaitsUptoRow.holds Try.pinned (OpenSpec.upto timerWaitsSpec)

/-- 'roundhouselaw22.TimerOnce', WHERE WHAT IT READS IS OF BULK AT MOST 1048576: true; the input reads as it did. -/
def timerOnceUptoRow : OpenClaim := { program := "ytdjoofidicoimaa", sum := "661e3671d2e1439a02c7d8481a4ea02a0138dad60084863322726975dd771b8b", func := "roundhouse/roundhouselaw22.TimerOnce", spec := "timerOnce", unfollowed := true, recurses := true, apart := false, narrowed := true }
def TimerOnceUptoSaid : Prop := timerOnceUptoRow.holds Try.pinned (OpenSpec.upto timerOnceSpec)

/-- 'roundhouselaw22.TimerLeft', WHERE WHAT IT READS IS OF BULK AT MOST 1048576: true; the input reads as it did. -/
def timerLeftUptoRow : OpenClaim := { program := "ytdjoofidicoimaa", sum := "661e3671d2e1439a02c7d8481a4ea02a0138dad60084863322726975dd771b8b", func := "roundhouse/roundhouselaw22.TimerLeft", spec := "timerLeft", unfollowed := true, recurses := true, apart := false, narrowed := true }
def TimerLeftUptoSaid : Prop := timerLeftUptoRow.holds Try.pinned (OpenSpec.upto timerLeftSpec)

/-- 'roundhouselaw22.TimerNames', WHERE WHAT IT READS IS OF BULK AT MOST 1048576: true; the input reads as it did. -/
def timerNamesUptoRow : OpenClaim := { program := "ytdjoofidicoimaa", sum := "661e3671d2e1439a02c7d8481a4ea02a0138dad60084863322726975dd771b8b", func := "roundhouse/roundhouselaw22.TimerNames", spec := "timerNames", unfollowed := true, recurses := true, apart := false, narrowed := true }
def TimerNamesUptoSaid : Prop := timerNamesUptoRow.holds Try.pinned (OpenSpec.upto timerNamesSpec)

/-- 'roundhouselaw22.TimerCommon', WHERE WHAT IT READS IS OF BULK AT MOST 1048576: true; the input reads as it did. -/
def timerCommonUptoRow : OpenClaim := { program := "ytdjoofidicoimaa", sum := "661e3671d2e1439a02c7d8481a4ea02a0138dad60084863322726975dd771b8b", func := "roundhouse/roundhouselaw22.TimerCommon", spec := "timerCommon", unfollowed := true, recurses := true, apart := false, narrowed := true }
def TimerCommonUptoSaid : Prop := timerCommonUptoRow.holds Try.pinned (OpenSpec.upto timerCommonSpec)

/-- 'roundhouselaw22.TimerPlays', WHERE WHAT IT READS IS OF BULK AT MOST 1048576: true; the input reads as it did. -/
def timerPlaysUptoRow : OpenClaim := { program := "ytdjoofidicoimaa", sum := "661e3671d2e1439a02c7d8481a4ea02a0138dad60084863322726975dd771b8b", func := "roundhouse/roundhouselaw22.TimerPlays", spec := "timerPlays", unfollowed := true, recurses := true, apart := false, narrowed := true }
def TimerPlaysUptoSaid : Prop := timerPlaysUptoRow.holds Try.pinned (OpenSpec.upto timerPlaysSpec)

end Rows
end Go.Proofs.Ytdjoofidicoimaa
