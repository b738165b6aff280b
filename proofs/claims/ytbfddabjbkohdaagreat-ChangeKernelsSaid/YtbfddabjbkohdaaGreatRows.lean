/-
  No cell of these rows narrows 'for every input' (looked for: loops, veiled, ifaces, maps, wideKeys, modest, calm, conditions, laid).
  DERIVED. THE GIVEN ROWS OF THIS SEAT. 10 by the template 'for every input the law returns true; each argument reads behind the call as it read before'; 0 by the template 'total and deterministic' (their statements: YtbfddabjbkohdaaGreatTotals.lean).
  GIVEN WITH THE SEED: the statements are not yours to turn. If you find one false, say at which input.
  Laid BY PROGRAM, IN A SANDBOX (cutbox-rows.mjs): the forced cells as the released guide's own fill.sh prints them over the translation b5cce3c1385aa12e… (all of the seat's roots in one cut). By AI agents, Wed Nov 11 2026. No macro, syntax, notation, axiom, sorry.
-/
import Derived.Test.YtbfddabjbkohdaaGreatChecked
import GoSem.Claim
import GoSem.ClaimJoined
import GoSem.ClaimMapViews
import Derived.JoinedTies
import Derived.KernelRfl
namespace Go.Proofs.YtbfddabjbkohdaaGreat
/- THE CELL 'sum', in the pinned program and in every row, IS THE sha256 OF THE DUMP (.gsa) THAT YtbfddabjbkohdaaGreatProg.lean LOADS. Nothing in Lean hashes anything: it is a label: what it is worth is what the hold of that sum in a sandbox is worth. -/
noncomputable def Tryz.pinned : Pinned := { name := "ytbfddabjbkohdaagreat", sum := "b5cce3c1385aa12e761aa7a85e9129f946faf5cfadd38b30fd82af1afe821c4d", checked := Tryz.checked }
namespace Rows
def none {H : Type} : Left H := { results := [], args := [] }

/-- 'roundhouselaw15.EplAgain': WHATEVER THE INPUT: true; the input reads as it did. -/
def eplAgainSpec : ChangeSpec := { name := "eplAgain", fn := fun _ => fun
  | [d1, d2] => { results := [.lit (.bool true)], args := [d1, d2] }
  | _ => none }
def eplAgainRow : OpenClaim := { program := "ytbfddabjbkohdaagreat", sum := "b5cce3c1385aa12e761aa7a85e9129f946faf5cfadd38b30fd82af1afe821c4d", func := "roundhouse/roundhouselaw15.EplAgain", spec := "eplAgain", unfollowed := true, recurses := true, plainKeys := false, apart := false }
def EplAgainSaid : Prop := eplAgainRow.holds Tryz.pinned (OpenSpec.ofChange eplAgainSpec)

/-- ITS FALSE NEIGHBOUR: 'it returns false'. Refute it at one input. -/
def eplAgainWrong : ChangeSpec := { name := "eplAgain", fn := fun _ => fun
  | [d1, d2] => { results := [.lit (.bool false)], args := [d1, d2] }
  | _ => none }
def EplAgainWrongFalsely : Prop := eplAgainRow.holds Tryz.pinned (OpenSpec.ofChange eplAgainWrong)

/-- 'roundhouselaw15.EplRoom': WHATEVER THE INPUT: true; the input reads as it did. -/
def eplRoomSpec : ChangeSpec := { name := "eplRoom", fn := fun _ => fun
  | [d1, d2, d3] => { results := [.lit (.bool true)], args := [d1, d2, d3] }
  | _ => none }
def eplRoomRow : OpenClaim := { program := "ytbfddabjbkohdaagreat", sum := "b5cce3c1385aa12e761aa7a85e9129f946faf5cfadd38b30fd82af1afe821c4d", func := "roundhouse/roundhouselaw15.EplRoom", spec := "eplRoom", unfollowed := true, recurses := true, plainKeys := false, apart := false }
def EplRoomSaid : Prop := eplRoomRow.holds Tryz.pinned (OpenSpec.ofChange eplRoomSpec)

/-- ITS FALSE NEIGHBOUR: 'it returns false'. Refute it at one input. -/
def eplRoomWrong : ChangeSpec := { name := "eplRoom", fn := fun _ => fun
  | [d1, d2, d3] => { results := [.lit (.bool false)], args := [d1, d2, d3] }
  | _ => none }
def EplRoomWrongFalsely : Prop := eplRoomRow.holds Tryz.pinned (OpenSpec.ofChange eplRoomWrong)

/-- 'roundhouselaw15.EplTraces': WHATEVER THE INPUT: true; the input reads as it did. -/
def eplTracesSpec : ChangeSpec := { name := "eplTraces", fn := fun _ => fun
  | [d1, d2, d3] => { results := [.lit (.bool true)], args := [d1, d2, d3] }
  | _ => none }
def eplTracesRow : OpenClaim := { program := "ytbfddabjbkohdaagreat", sum := "b5cce3c1385aa12e761aa7a85e9129f946faf5cfadd38b30fd82af1afe821c4d", func := "roundhouse/roundhouselaw15.EplTraces", spec := "eplTraces", unfollowed := true, recurses := true, plainKeys := false, apart := false }
def EplTracesSaid : Prop := eplTracesRow.holds Tryz.pinned (OpenSpec.ofChange eplTracesSpec)

/-- ITS FALSE NEIGHBOUR: 'it returns false'. Refute it at one input. -/
def eplTracesWrong : ChangeSpec := { name := "eplTraces", fn := fun _ => fun
  | [d1, d2, d3] => { results := [.lit (.bool false)], args := [d1, d2, d3] }
  | _ => none }
def EplTracesWrongFalsely : Prop := eplTracesRow.holds Tryz.pinned (OpenSpec.ofChange eplTracesWrong)

/-- 'roundhouselaw15.EplPlays': WHATEVER THE INPUT: true; the input reads as it did. -/
def eplPlaysSpec : ChangeSpec := { name := "eplPlays", fn := fun _ => fun
  | [d1, d2, d3] => { results := [.lit (.bool true)], args := [d1, d2, d3] }
  | _ => none }
def eplPlaysRow : OpenClaim := { program := "ytbfddabjbkohdaagreat", sum := "b5cce3c1385aa12e761aa7a85e9129f946faf5cfadd38b30fd82af1afe821c4d", func := "roundhouse/roundhouselaw15.EplPlays", spec := "eplPlays", unfollowed := true, recurses := true, plainKeys := false, apart := false }
def EplPlaysSaid : Prop := eplPlaysRow.holds Tryz.pinned (OpenSpec.ofChange eplPlaysSpec)

/-- ITS FALSE NEIGHBOUR: 'it returns false'. Refute it at one input. -/
def eplPlaysWrong : ChangeSpec := { name := "eplPlays", fn := fun _ => fun
  | [d1, d2, d3] => { results := [.lit (.bool false)], args := [d1, d2, d3] }
  | _ => none }
def EplPlaysWrongFalsely : Prop := eplPlaysRow.holds Tryz.pinned (OpenSpec.ofChange eplPlaysWrong)

/-- 'roundhouselaw16.KquMost': WHATEVER THE INPUT: true; the input reads as it did. -/
def kquMostSpec : ChangeSpec := { name := "kquMost", fn := fun _ => fun
  | [d1, d2, d3, d4] => { results := [.lit (.bool true)], args := [d1, d2, d3, d4] }
  | _ => none }
def kquMostRow : OpenClaim := { program := "ytbfddabjbkohdaagreat", sum := "b5cce3c1385aa12e761aa7a85e9129f946faf5cfadd38b30fd82af1afe821c4d", func := "roundhouse/roundhouselaw16.KquMost", spec := "kquMost", unfollowed := true, recurses := true, plainKeys := false, apart := false }
def KquMostSaid : Prop := kquMostRow.holds Tryz.pinned (OpenSpec.ofChange kquMostSpec)

/-- ITS FALSE NEIGHBOUR: 'it returns false'. Refute it at one input. -/
def kquMostWrong : ChangeSpec := { name := "kquMost", fn := fun _ => fun
  | [d1, d2, d3, d4] => { results := [.lit (.bool false)], args := [d1, d2, d3, d4] }
  | _ => none }
def KquMostWrongFalsely : Prop := kquMostRow.holds Tryz.pinned (OpenSpec.ofChange kquMostWrong)

/-- 'roundhouselaw16.KquAgain': WHATEVER THE INPUT: true; the input reads as it did. -/
def kquAgainSpec : ChangeSpec := { name := "kquAgain", fn := fun _ => fun
  | [d1, d2, d3] => { results := [.lit (.bool true)], args := [d1, d2, d3] }
  | _ => none }
def kquAgainRow : OpenClaim := { program := "ytbfddabjbkohdaagreat", sum := "b5cce3c1385aa12e761aa7a85e9129f946faf5cfadd38b30fd82af1afe821c4d", func := "roundhouse/roundhouselaw16.KquAgain", spec := "kquAgain", unfollowed := true, recurses := true, plainKeys := false, apart := false }
def KquAgainSaid : Prop := kquAgainRow.holds Tryz.pinned (OpenSpec.ofChange kquAgainSpec)

/-- ITS FALSE NEIGHBOUR: 'it returns false'. Refute it at one input. -/
def kquAgainWrong : ChangeSpec := { name := "kquAgain", fn := fun _ => fun
  | [d1, d2, d3] => { results := [.lit (.bool false)], args := [d1, d2, d3] }
  | _ => none }
def KquAgainWrongFalsely : Prop := kquAgainRow.holds Tryz.pinned (OpenSpec.ofChange kquAgainWrong)

/-- 'roundhouselaw16.KquTraces': WHATEVER THE INPUT: true; the input reads as it did. -/
def kquTracesSpec : ChangeSpec := { name := "kquTraces", fn := fun _ => fun
  | [d1, d2, d3] => { results := [.lit (.bool true)], args := [d1, d2, d3] }
  | _ => none }
def kquTracesRow : OpenClaim := { program := "ytbfddabjbkohdaagreat", sum := "b5cce3c1385aa12e761aa7a85e9129f946faf5cfadd38b30fd82af1afe821c4d", func := "roundhouse/roundhouselaw16.KquTraces", spec := "kquTraces", unfollowed := true, recurses := true, plainKeys := false, apart := false }
def KquTracesSaid : Prop := kquTracesRow.holds Tryz.pinned (OpenSpec.ofChange kquTracesSpec)

/-- ITS FALSE NEIGHBOUR: 'it returns false'. Refute it at one input. -/
def kquTracesWrong : ChangeSpec := { name := "kquTraces", fn := fun _ => fun
  | [d1, d2, d3] => { results := [.lit (.bool false)], args := [d1, d2, d3] }
  | _ => none }
def KquTracesWrongFalsely : Prop := kquTracesRow.holds Tryz.pinned (OpenSpec.ofChange kquTracesWrong)

/-- 'roundhouselaw16.KquLeaves': WHATEVER THE INPUT: true; the input reads as it did. -/
def kquLeavesSpec : ChangeSpec := { name := "kquLeaves", fn := fun _ => fun
  | [d1, d2, d3] => { results := [.lit (.bool true)], args := [d1, d2, d3] }
  | _ => none }
def kquLeavesRow : OpenClaim := { program := "ytbfddabjbkohdaagreat", sum := "b5cce3c1385aa12e761aa7a85e9129f946faf5cfadd38b30fd82af1afe821c4d", func := "roundhouse/roundhouselaw16.KquLeaves", spec := "kquLeaves", unfollowed := true, recurses := true, plainKeys := false, apart := false }
def KquLeavesSaid : Prop := kquLeavesRow.holds Tryz.pinned (OpenSpec.ofChange kquLeavesSpec)

/-- ITS FALSE NEIGHBOUR: 'it returns false'. Refute it at one input. -/
def kquLeavesWrong : ChangeSpec := { name := "kquLeaves", fn := fun _ => fun
  | [d1, d2, d3] => { results := [.lit (.bool false)], args := [d1, d2, d3] }
  | _ => none }
def KquLeavesWrongFalsely : Prop := kquLeavesRow.holds Tryz.pinned (OpenSpec.ofChange kquLeavesWrong)

/-- 'roundhouselaw16.KquPlays': WHATEVER THE INPUT: true; the input reads as it did. -/
def kquPlaysSpec : ChangeSpec := { name := "kquPlays", fn := fun _ => fun
  | [d1, d2] => { results := [.lit (.bool true)], args := [d1, d2] }
  | _ => none }
def kquPlaysRow : OpenClaim := { program := "ytbfddabjbkohdaagreat", sum := "b5cce3c1385aa12e761aa7a85e9129f946faf5cfadd38b30fd82af1afe821c4d", func := "roundhouse/roundhouselaw16.KquPlays", spec := "kquPlays", unfollowed := true, recurses := true, plainKeys := false, apart := false }
def KquPlaysSaid : Prop := kquPlaysRow.holds Tryz.pinned (OpenSpec.ofChange kquPlaysSpec)

/-- ITS FALSE NEIGHBOUR: 'it returns false'. Refute it at one input. -/
def kquPlaysWrong : ChangeSpec := { name := "kquPlays", fn := fun _ => fun
  | [d1, d2] => { results := [.lit (.bool false)], args := [d1, d2] }
  | _ => none }
def KquPlaysWrongFalsely : Prop := kquPlaysRow.holds Tryz.pinned (OpenSpec.ofChange kquPlaysWrong)

/-- 'roundhouselaw17.ChangeKernels': WHATEVER THE INPUT: true; the input reads as it did. -/
def changeKernelsSpec : ChangeSpec := { name := "changeKernels", fn := fun _ => fun
  | [d1, d2] => { results := [.lit (.bool true)], args := [d1, d2] }
  | _ => none }
def changeKernelsRow : OpenClaim := { program := "ytbfddabjbkohdaagreat", sum := "b5cce3c1385aa12e761aa7a85e9129f946faf5cfadd38b30fd82af1afe821c4d", func := "roundhouse/roundhouselaw17.ChangeKernels", spec := "changeKernels", unfollowed := true, recurses := true, plainKeys := false, apart := false }
def ChangeKernelsSaid : Prop := changeKernelsRow.holds Tryz.pinned (OpenSpec.ofChange changeKernelsSpec)

/-- ITS FALSE NEIGHBOUR: 'it returns false'. Refute it at one input. -/
def changeKernelsWrong : ChangeSpec := { name := "changeKernels", fn := fun _ => fun
  | [d1, d2] => { results := [.lit (.bool false)], args := [d1, d2] }
  | _ => none }
def ChangeKernelsWrongFalsely : Prop := changeKernelsRow.holds Tryz.pinned (OpenSpec.ofChange changeKernelsWrong)

/- THE SECOND FORM. 'bulk': how many values and letters a reading holds, each counted each time it is reached (what is shared counts as often as it is met; a slice's spare places count too). A statement '..UptoSaid' is the law's where the arguments, and the package variables that the reading takes, are together of bulk at most 1048576: NARROWER than '..Said'. Prove '..Said' where nothing that the law and all that it calls make is longer than what came in: it says more and counts as full. Else prove '..UptoSaid'. A law counts once. -/
mutual
def uptoBulk {H : Type} : DataW H → Nat
  | .lit (.string bytes) => bytes.length + 1
  | .lit _ => 1
  | .nil => 1
  | .ptr d => uptoBulk d + 1
  | .slice elems spare => uptoBulkAll elems + uptoBulkAll spare + 1
  | .agg parts => uptoBulkAll parts + 1
  | .iface _ d => uptoBulk d + 1
  | .map entries => uptoBulkEntries entries + 1
  | .held _ => 1
def uptoBulkAll {H : Type} : List (DataW H) → Nat
  | [] => 0
  | d :: r => uptoBulk d + uptoBulkAll r
def uptoBulkEntries {H : Type} : List (Lit × DataW H) → Nat
  | [] => 0
  | x :: r => uptoBulkEntry x + uptoBulkEntries r
def uptoBulkEntry {H : Type} : Lit × DataW H → Nat
  | (.string bytes, d) => bytes.length + uptoBulk d + 1
  | (_, d) => uptoBulk d + 1
 end
def uptoSmall : (H : Type) → List (DataW H) → Bool := fun _ ds => decide (uptoBulkAll ds ≤ 1048576)
def OpenSpec.upto (s : _root_.Go.ChangeSpec) : _root_.Go.OpenSpec := { _root_.Go.OpenSpec.ofChange s with cond := some uptoSmall }

/-- 'roundhouselaw15.EplAgain', WHERE WHAT IT READS IS OF BULK AT MOST 1048576: true; the input reads as it did. -/
def eplAgainUptoRow : OpenClaim := { program := "ytbfddabjbkohdaagreat", sum := "b5cce3c1385aa12e761aa7a85e9129f946faf5cfadd38b30fd82af1afe821c4d", func := "roundhouse/roundhouselaw15.EplAgain", spec := "eplAgain", unfollowed := true, recurses := true, plainKeys := false, apart := false, narrowed := true }
def EplAgainUptoSaid : Prop := eplAgainUptoRow.holds Tryz.pinned (OpenSpec.upto eplAgainSpec)

/-- 'roundhouselaw15.EplRoom', WHERE WHAT IT READS IS OF BULK AT MOST 1048576: true; the input reads as it did. -/
def eplRoomUptoRow : OpenClaim := { program := "ytbfddabjbkohdaagreat", sum := "b5cce3c1385aa12e761aa7a85e9129f946faf5cfadd38b30fd82af1afe821c4d", func := "roundhouse/roundhouselaw15.EplRoom", spec := "eplRoom", unfollowed := true, recurses := true, plainKeys := false, apart := false, narrowed := true }
def EplRoomUptoSaid : Prop := eplRoomUptoRow.holds Tryz.pinned (OpenSpec.upto eplRoomSpec)

/-- 'roundhouselaw15.EplTraces', WHERE WHAT IT READS IS OF BULK AT MOST 1048576: true; the input reads as it did. -/
def eplTracesUptoRow : OpenClaim := { program := "ytbfddabjbkohdaagreat", sum := "b5cce3c1385aa12e761aa7a85e9129f946faf5cfadd38b30fd82af1afe821c4d", func := "roundhouse/roundhouselaw15.EplTraces", spec := "eplTraces", unfollowed := true, recurses := true, plainKeys := false, apart := false, narrowed := true }
def EplTracesUptoSaid : Prop := eplTracesUptoRow.holds Tryz.pinned (OpenSpec.upto eplTracesSpec)

/-- 'roundhouselaw15.EplPlays', WHERE WHAT IT READS IS OF BULK AT MOST 1048576: true; the input reads as it did. -/
def eplPlaysUptoRow : OpenClaim := { program := "ytbfddabjbkohdaagreat", sum := "b5cce3c1385aa12e761aa7a85e9129f946faf5cfadd38b30fd82af1afe821c4d", func := "roundhouse/roundhouselaw15.EplPlays", spec := "eplPlays", unfollowed := true, recurses := true, plainKeys := false, apart := false, narrowed := true }
def EplPlaysUptoSaid : Prop := eplPlaysUptoRow.holds Tryz.pinned (OpenSpec.upto eplPlaysSpec)

/-- 'roundhouselaw16.KquMost', WHERE WHAT IT READS IS OF BULK AT MOST 1048576: true; the input reads as it did. -/
def kquMostUptoRow : OpenClaim := { program := "ytbfddabjbkohdaagreat", sum := "b5cce3c1385aa12e761aa7a85e9129f946faf5cfadd38b30fd82af1afe821c4d", func := "roundhouse/roundhouselaw16.KquMost", spec := "kquMost", unfollowed := true, recurses := true, plainKeys := false, apart := false, narrowed := true }
def KquMostUptoSaid : Prop := kquMostUptoRow.holds Tryz.pinned (OpenSpec.upto kquMostSpec)

/-- 'roundhouselaw16.KquAgain', WHERE WHAT IT READS IS OF BULK AT MOST 1048576: true; the input reads as it did. -/
def kquAgainUptoRow : OpenClaim := { program := "ytbfddabjbkohdaagreat", sum := "b5cce3c1385aa12e761aa7a85e9129f946faf5cfadd38b30fd82af1afe821c4d", func := "roundhouse/roundhouselaw16.KquAgain", spec := "kquAgain", unfollowed := true, recurses := true, plainKeys := false, apart := false, narrowed := true }
def KquAgainUptoSaid : Prop := kquAgainUptoRow.holds Tryz.pinned (OpenSpec.upto kquAgainSpec)

/-- 'roundhouselaw16.KquTraces', WHERE WHAT IT READS IS OF BULK AT MOST 1048576: true; the input reads as it did. -/
def kquTracesUptoRow : OpenClaim := { program := "ytbfddabjbkohdaagreat", sum := "b5cce3c1385aa12e761aa7a85e9129f946faf5cfadd38b30fd82af1afe821c4d", func := "roundhouse/roundhouselaw16.KquTraces", spec := "kquTraces", unfollowed := true, recurses := true, plainKeys := false, apart := false, narrowed := true }
def KquTracesUptoSaid : Prop := kquTracesUptoRow.holds Tryz.pinned (OpenSpec.upto kquTracesSpec)

/-- 'roundhouselaw16.KquLeaves', WHERE WHAT IT READS IS OF BULK AT MOST 1048576: true; the input reads as it did. -/
def kquLeavesUptoRow : OpenClaim := { program := "ytbfddabjbkohdaagreat", sum := "b5cce3c1385aa12e761aa7a85e9129f946faf5cfadd38b30fd82af1afe821c4d", func := "roundhouse/roundhouselaw16.KquLeaves", spec := "kquLeaves", unfollowed := true, recurses := true, plainKeys := false, apart := false, narrowed := true }
def KquLeavesUptoSaid : Prop := kquLeavesUptoRow.holds Tryz.pinned (OpenSpec.upto kquLeavesSpec)

/-- 'roundhouselaw16.KquPlays', WHERE WHAT IT READS IS OF BULK AT MOST 1048576: true; the input reads as it did. -/
def kquPlaysUptoRow : OpenClaim := { program := "ytbfddabjbkohdaagreat", sum := "b5cce3c1385aa12e761aa7a85e9129f946faf5cfadd38b30fd82af1afe821c4d", func := "roundhouse/roundhouselaw16.KquPlays", spec := "kquPlays", unfollowed := true, recurses := true, plainKeys := false, apart := false, narrowed := true }
def KquPlaysUptoSaid : Prop := kquPlaysUptoRow.holds Tryz.pinned (OpenSpec.upto kquPlaysSpec)

/-- 'roundhouselaw17.ChangeKernels', WHERE WHAT IT READS IS OF BULK AT MOST 1048576: true; the input reads as it did. -/
def changeKernelsUptoRow : OpenClaim := { program := "ytbfddabjbkohdaagreat", sum := "b5cce3c1385aa12e761aa7a85e9129f946faf5cfadd38b30fd82af1afe821c4d", func := "roundhouse/roundhouselaw17.ChangeKernels", spec := "changeKernels", unfollowed := true, recurses := true, plainKeys := false, apart := false, narrowed := true }
def ChangeKernelsUptoSaid : Prop := changeKernelsUptoRow.holds Tryz.pinned (OpenSpec.upto changeKernelsSpec)

end Rows
end Go.Proofs.YtbfddabjbkohdaaGreat
