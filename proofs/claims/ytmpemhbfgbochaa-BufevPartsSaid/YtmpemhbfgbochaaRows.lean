/-
  No cell of these rows narrows 'for every input' (looked for: loops, veiled, ifaces, maps, wideKeys, modest, calm, conditions, laid).
  DERIVED. THE GIVEN ROWS OF THIS SEAT. 5 by the template 'for every input the law returns true; each argument reads behind the call as it read before'; 0 by the template 'total and deterministic' (their statements: YtmpemhbfgbochaaTotals.lean).
  GIVEN WITH THE SEED: the statements are not yours to turn. If you find one false, say at which input.
  Laid BY PROGRAM, IN A SANDBOX (cutbox-rows.mjs): the forced cells as the released guide's own fill.sh prints them over the translation 4792fee147d9421a… (all of the seat's roots in one cut). By AI agents, Wed Nov 11 2026. No macro, syntax, notation, axiom, sorry.
-/
import Derived.Test.YtmpemhbfgbochaaChecked
import GoSem.Claim
import GoSem.ClaimJoined
import GoSem.ClaimMapViews
import Derived.JoinedTies
import Derived.KernelRfl
namespace Go.Proofs.Ytmpemhbfgbochaa
/- THE CELL 'sum', in the pinned program and in every row, IS THE sha256 OF THE DUMP (.gsa) THAT YtmpemhbfgbochaaProg.lean LOADS. Nothing in Lean hashes anything: it is a label: what it is worth is what the hold of that sum in a sandbox is worth. -/
noncomputable def Try.pinned : Pinned := { name := "ytmpemhbfgbochaa", sum := "4792fee147d9421ab052fb206184544e3a8af0b0a91a9a7182134285deb912c8", checked := Try.checked }
namespace Rows
def none {H : Type} : Left H := { results := [], args := [] }

/-- 'roundhouselaw26.BufevMarks': WHATEVER THE INPUT: true; the input reads as it did. -/
def bufevMarksSpec : ChangeSpec := { name := "bufevMarks", fn := fun _ => fun
  | [d1, d2, d3, d4] => { results := [.lit (.bool true)], args := [d1, d2, d3, d4] }
  | _ => none }
def bufevMarksRow : OpenClaim := { program := "ytmpemhbfgbochaa", sum := "4792fee147d9421ab052fb206184544e3a8af0b0a91a9a7182134285deb912c8", func := "roundhouse/roundhouselaw26.BufevMarks", spec := "bufevMarks", unfollowed := true, recurses := true, apart := false }
def BufevMarksSaid : Prop := bufevMarksRow.holds Try.pinned (OpenSpec.ofChange bufevMarksSpec)

/-- ITS FALSE NEIGHBOUR: 'it returns false'. Refute it at one input. -/
def bufevMarksWrong : ChangeSpec := { name := "bufevMarks", fn := fun _ => fun
  | [d1, d2, d3, d4] => { results := [.lit (.bool false)], args := [d1, d2, d3, d4] }
  | _ => none }
def BufevMarksWrongFalsely : Prop := bufevMarksRow.holds Try.pinned (OpenSpec.ofChange bufevMarksWrong)

/-- 'roundhouselaw26.BufevLate': WHATEVER THE INPUT: true; the input reads as it did. -/
def bufevLateSpec : ChangeSpec := { name := "bufevLate", fn := fun _ => fun
  | [d1, d2, d3] => { results := [.lit (.bool true)], args := [d1, d2, d3] }
  | _ => none }
def bufevLateRow : OpenClaim := { program := "ytmpemhbfgbochaa", sum := "4792fee147d9421ab052fb206184544e3a8af0b0a91a9a7182134285deb912c8", func := "roundhouse/roundhouselaw26.BufevLate", spec := "bufevLate", unfollowed := true, recurses := true, apart := false }
def BufevLateSaid : Prop := bufevLateRow.holds Try.pinned (OpenSpec.ofChange bufevLateSpec)

/-- ITS FALSE NEIGHBOUR: 'it returns false'. Refute it at one input. -/
def bufevLateWrong : ChangeSpec := { name := "bufevLate", fn := fun _ => fun
  | [d1, d2, d3] => { results := [.lit (.bool false)], args := [d1, d2, d3] }
  | _ => none }
def BufevLateWrongFalsely : Prop := bufevLateRow.holds Try.pinned (OpenSpec.ofChange bufevLateWrong)

/-- 'roundhouselaw26.BufevParts': WHATEVER THE INPUT: true; the input reads as it did. -/
def bufevPartsSpec : ChangeSpec := { name := "bufevParts", fn := fun _ => fun
  | [d1, d2, d3, d4] => { results := [.lit (.bool true)], args := [d1, d2, d3, d4] }
  | _ => none }
def bufevPartsRow : OpenClaim := { program := "ytmpemhbfgbochaa", sum := "4792fee147d9421ab052fb206184544e3a8af0b0a91a9a7182134285deb912c8", func := "roundhouse/roundhouselaw26.BufevParts", spec := "bufevParts", unfollowed := true, recurses := true, apart := false }
def BufevPartsSaid : Prop := bufevPartsRow.holds Try.pinned (OpenSpec.ofChange bufevPartsSpec)

/-- ITS FALSE NEIGHBOUR: 'it returns false'. Refute it at one input. -/
def bufevPartsWrong : ChangeSpec := { name := "bufevParts", fn := fun _ => fun
  | [d1, d2, d3, d4] => { results := [.lit (.bool false)], args := [d1, d2, d3, d4] }
  | _ => none }
def BufevPartsWrongFalsely : Prop := bufevPartsRow.holds Try.pinned (OpenSpec.ofChange bufevPartsWrong)

/-- 'roundhouselaw26.BufevNames': WHATEVER THE INPUT: true; the input reads as it did. -/
def bufevNamesSpec : ChangeSpec := { name := "bufevNames", fn := fun _ => fun
  | [] => { results := [.lit (.bool true)], args := [] }
  | _ => none }
def bufevNamesRow : OpenClaim := { program := "ytmpemhbfgbochaa", sum := "4792fee147d9421ab052fb206184544e3a8af0b0a91a9a7182134285deb912c8", func := "roundhouse/roundhouselaw26.BufevNames", spec := "bufevNames", unfollowed := true, recurses := true, apart := false }
def BufevNamesSaid : Prop := bufevNamesRow.holds Try.pinned (OpenSpec.ofChange bufevNamesSpec)

/-- ITS FALSE NEIGHBOUR: 'it returns false'. Refute it at one input. -/
def bufevNamesWrong : ChangeSpec := { name := "bufevNames", fn := fun _ => fun
  | [] => { results := [.lit (.bool false)], args := [] }
  | _ => none }
def BufevNamesWrongFalsely : Prop := bufevNamesRow.holds Try.pinned (OpenSpec.ofChange bufevNamesWrong)

/-- 'roundhouselaw26.BufevBytes': WHATEVER THE INPUT: true; the input reads as it did. -/
def bufevBytesSpec : ChangeSpec := { name := "bufevBytes", fn := fun _ => fun
  | [d1, d2] => { results := [.lit (.bool true)], args := [d1, d2] }
  | _ => none }
def bufevBytesRow : OpenClaim := { program := "ytmpemhbfgbochaa", sum := "4792fee147d9421ab052fb206184544e3a8af0b0a91a9a7182134285deb912c8", func := "roundhouse/roundhouselaw26.BufevBytes", spec := "bufevBytes", unfollowed := true, recurses := true, apart := false }
def BufevBytesSaid : Prop := bufevBytesRow.holds Try.pinned (OpenSpec.ofChange bufevBytesSpec)

/-- ITS FALSE NEIGHBOUR: 'it returns false'. Refute it at one input. -/
def bufevBytesWrong : ChangeSpec := { name := "bufevBytes", fn := fun _ => fun
  | [d1, d2] => { results := [.lit (.bool false)], args := [d1, d2] }
  | _ => none }
def BufevBytesWrongFalsely : Prop := bufevBytesRow.holds Try.pinned (OpenSpec.ofChange bufevBytesWrong)

/- THE SECOND FORM. 'bulk': how many values and letters a reading holds, each counted each time it is reached (what is shared counts as often as it is met; a slice's spare places count too). A statement '..UptoSaid' is the law's where the arguments, and the package variables that the reading takes, are together of bulk at most 1048576: NARROWER than '..Said'. Prove '..Said' where nothing that the law and all that it calls make is longer than what came in: it says more and counts as full. Else prove '..UptoSaid'. A law counts once. -/
mutual
def uptoBulk {H : Type} : DataW H → Nat
  | .lit (.string bytes) => bytes.length + 1
  | .lit _ => 1
  | .nil => 1
  | .ptr d => uptoBulk d + 1
  | .slice elems spare => uptoBulkAll elems + uptoBulkAll spare + 1
  | .agg parts => uptoBulkAll parts + 1
  | .iface _ d => uptoBulk d + 1
  | .map entries => uptoBulkEntries entries + 1
  | .held _ => 1
def uptoBulkAll {H : Type} : List (DataW H) → Nat
  | [] => 0
  | d :: r => uptoBulk d + uptoBulkAll r
def uptoBulkEntries {H : Type} : List (Lit × DataW H) → Nat
  | [] => 0
  | x :: r => uptoBulkEntry x + uptoBulkEntries r
def uptoBulkEntry {H : Type} : Lit × DataW H → Nat
  | (.string bytes, d) => bytes.length + uptoBulk d + 1
  | (_, d) => uptoBulk d + 1
 end
def uptoSmall : (H : Type) → List (DataW H) → Bool := fun _ ds => decide (uptoBulkAll ds ≤ 1048576)
def OpenSpec.upto (s : _root_.Go.ChangeSpec) : _root_.Go.OpenSpec := { _root_.Go.OpenSpec.ofChange s with cond := some uptoSmall }

/-- 'roundhouselaw26.BufevMarks', WHERE WHAT IT READS IS OF BULK AT MOST 1048576: true; the input reads as it did. -/
def bufevMarksUptoRow : OpenClaim := { program := "ytmpemhbfgbochaa", sum := "4792fee147d9421ab052fb206184544e3a8af0b0a91a9a7182134285deb912c8", func := "roundhouse/roundhouselaw26.BufevMarks", spec := "bufevMarks", unfollowed := true, recurses := true, apart := false, narrowed := true }
def BufevMarksUptoSaid : Prop := bufevMarksUptoRow.holds Try.pinned (OpenSpec.upto bufevMarksSpec)

/-- 'roundhouselaw26.BufevLate', WHERE WHAT IT READS IS OF BULK AT MOST 1048576: true; the input reads as it did. -/
def bufevLateUptoRow : OpenClaim := { program := "ytmpemhbfgbochaa", sum := "4792fee147d9421ab052fb206184544e3a8af0b0a91a9a7182134285deb912c8", func := "roundhouse/roundhouselaw26.BufevLate", spec := "bufevLate", unfollowed := true, recurses := true, apart := false, narrowed := true }
def BufevLateUptoSaid : Prop := bufevLateUptoRow.holds Try.pinned (OpenSpec.upto bufevLateSpec)

/-- 'roundhouselaw26.BufevParts', WHERE WHAT IT READS IS OF BULK AT MOST 1048576: true; the input reads as it did. -/
def bufevPartsUptoRow : OpenClaim := { program := "ytmpemhbfgbochaa", sum := "4792fee147d9421ab052fb206184544e3a8af0b0a91a9a7182134285deb912c8", func := "roundhouse/roundhouselaw26.BufevParts", spec := "bufevParts", unfollowed := true, recurses := true, apart := false, narrowed := true }
def BufevPartsUptoSaid : Prop := bufevPartsUptoRow.holds Try.pinned (OpenSpec.upto bufevPartsSpec)

/-- 'roundhouselaw26.BufevNames', WHERE WHAT IT READS IS OF BULK AT MOST 1048576: true; the input reads as it did. -/
def bufevNamesUptoRow : OpenClaim := { program := "ytmpemhbfgbochaa", sum := "4792fee147d9421ab052fb206184544e3a8af0b0a91a9a7182134285deb912c8", func := "roundhouse/roundhouselaw26.BufevNames", spec := "bufevNames", unfollowed := true, recurses := true, apart := false, narrowed := true }
def BufevNamesUptoSaid : Prop := bufevNamesUptoRow.holds Try.pinned (OpenSpec.upto bufevNamesSpec)

/-- 'roundhouselaw26.BufevBytes', WHERE WHAT IT READS IS OF BULK AT MOST 1048576: true; the input reads as it did. -/
def bufevBytesUptoRow : OpenClaim := { program := "ytmpemhbfgbochaa", sum := "4792fee147d9421ab052fb206184544e3a8af0b0a91a9a7182134285deb912c8", func := "roundhouse/roundhouselaw26.BufevBytes", spec := "bufevBytes", unfollowed := true, recurses := true, apart := false, narrowed := true }
def BufevBytesUptoSaid : Prop := bufevBytesUptoRow.holds Try.pinned (OpenSpec.upto bufevBytesSpec)

end Rows
end Go.Proofs.Ytmpemhbfgbochaa
