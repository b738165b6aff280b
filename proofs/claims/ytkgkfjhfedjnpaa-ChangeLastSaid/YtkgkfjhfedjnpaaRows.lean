/-
  No cell of these rows narrows 'for every input' (looked for: loops, veiled, ifaces, maps, wideKeys, modest, calm, conditions, laid).
  DERIVED. THE GIVEN ROWS OF THIS SEAT. 7 by the template 'for every input the law returns true; each argument reads behind the call as it read before'; 0 by the template 'total and deterministic' (their statements: YtkgkfjhfedjnpaaTotals.lean).
  GIVEN WITH THE SEED: the statements are not yours to turn. If you find one false, say at which input.
  Laid BY PROGRAM, IN A SANDBOX (cutbox-rows.mjs): the forced cells as the released guide's own fill.sh prints them over the translation 8e33a76a1e75a909… (all of the seat's roots in one cut). By AI agents, Wed Nov 11 2026. No macro, syntax, notation, axiom, sorry.
-/
import Derived.Test.YtkgkfjhfedjnpaaChecked
import GoSem.Claim
import GoSem.ClaimJoined
import GoSem.ClaimMapViews
import Derived.JoinedTies
import Derived.KernelRfl
namespace Go.Proofs.Ytkgkfjhfedjnpaa
/- THE CELL 'sum', in the pinned program and in every row, IS THE sha256 OF THE DUMP (.gsa) THAT YtkgkfjhfedjnpaaProg.lean LOADS. Nothing in Lean hashes anything: it is a label: what it is worth is what the hold of that sum in a sandbox is worth. -/
noncomputable def Try.pinned : Pinned := { name := "ytkgkfjhfedjnpaa", sum := "8e33a76a1e75a90993b0ea11ebc7a030cbc562a482b86e08f5ac6fcbb70ec937", checked := Try.checked }
namespace Rows
def none {H : Type} : Left H := { results := [], args := [] }

/-- 'roundhouselaw15.EplShuffles': WHATEVER THE INPUT: true; the input reads as it did. -/
def eplShufflesSpec : ChangeSpec := { name := "eplShuffles", fn := fun _ => fun
  | [d1, d2] => { results := [.lit (.bool true)], args := [d1, d2] }
  | _ => none }
def eplShufflesRow : OpenClaim := { program := "ytkgkfjhfedjnpaa", sum := "8e33a76a1e75a90993b0ea11ebc7a030cbc562a482b86e08f5ac6fcbb70ec937", func := "roundhouse/roundhouselaw15.EplShuffles", spec := "eplShuffles", apart := false }
def EplShufflesSaid : Prop := eplShufflesRow.holds Try.pinned (OpenSpec.ofChange eplShufflesSpec)

/-- ITS FALSE NEIGHBOUR: 'it returns false'. Refute it at one input. -/
def eplShufflesWrong : ChangeSpec := { name := "eplShuffles", fn := fun _ => fun
  | [d1, d2] => { results := [.lit (.bool false)], args := [d1, d2] }
  | _ => none }
def EplShufflesWrongFalsely : Prop := eplShufflesRow.holds Try.pinned (OpenSpec.ofChange eplShufflesWrong)

/-- 'roundhouselaw17.ChangeSays': WHATEVER THE INPUT: true; the input reads as it did. -/
def changeSaysSpec : ChangeSpec := { name := "changeSays", fn := fun _ => fun
  | [d] => { results := [.lit (.bool true)], args := [d] }
  | _ => none }
def changeSaysRow : OpenClaim := { program := "ytkgkfjhfedjnpaa", sum := "8e33a76a1e75a90993b0ea11ebc7a030cbc562a482b86e08f5ac6fcbb70ec937", func := "roundhouse/roundhouselaw17.ChangeSays", spec := "changeSays", apart := false }
def ChangeSaysSaid : Prop := changeSaysRow.holds Try.pinned (OpenSpec.ofChange changeSaysSpec)

/-- ITS FALSE NEIGHBOUR: 'it returns false'. Refute it at one input. -/
def changeSaysWrong : ChangeSpec := { name := "changeSays", fn := fun _ => fun
  | [d] => { results := [.lit (.bool false)], args := [d] }
  | _ => none }
def ChangeSaysWrongFalsely : Prop := changeSaysRow.holds Try.pinned (OpenSpec.ofChange changeSaysWrong)

/-- 'roundhouselaw17.ChangeLast': WHATEVER THE INPUT: true; the input reads as it did. -/
def changeLastSpec : ChangeSpec := { name := "changeLast", fn := fun _ => fun
  | [d1, d2] => { results := [.lit (.bool true)], args := [d1, d2] }
  | _ => none }
def changeLastRow : OpenClaim := { program := "ytkgkfjhfedjnpaa", sum := "8e33a76a1e75a90993b0ea11ebc7a030cbc562a482b86e08f5ac6fcbb70ec937", func := "roundhouse/roundhouselaw17.ChangeLast", spec := "changeLast", unfollowed := true, recurses := true, apart := false }
def ChangeLastSaid : Prop := changeLastRow.holds Try.pinned (OpenSpec.ofChange changeLastSpec)

/-- ITS FALSE NEIGHBOUR: 'it returns false'. Refute it at one input. -/
def changeLastWrong : ChangeSpec := { name := "changeLast", fn := fun _ => fun
  | [d1, d2] => { results := [.lit (.bool false)], args := [d1, d2] }
  | _ => none }
def ChangeLastWrongFalsely : Prop := changeLastRow.holds Try.pinned (OpenSpec.ofChange changeLastWrong)

/-- 'roundhouselaw17.ChangeNets': WHATEVER THE INPUT: true; the input reads as it did. -/
def changeNetsSpec : ChangeSpec := { name := "changeNets", fn := fun _ => fun
  | [d1, d2] => { results := [.lit (.bool true)], args := [d1, d2] }
  | _ => none }
def changeNetsRow : OpenClaim := { program := "ytkgkfjhfedjnpaa", sum := "8e33a76a1e75a90993b0ea11ebc7a030cbc562a482b86e08f5ac6fcbb70ec937", func := "roundhouse/roundhouselaw17.ChangeNets", spec := "changeNets", unfollowed := true, recurses := true, apart := false }
def ChangeNetsSaid : Prop := changeNetsRow.holds Try.pinned (OpenSpec.ofChange changeNetsSpec)

/-- ITS FALSE NEIGHBOUR: 'it returns false'. Refute it at one input. -/
def changeNetsWrong : ChangeSpec := { name := "changeNets", fn := fun _ => fun
  | [d1, d2] => { results := [.lit (.bool false)], args := [d1, d2] }
  | _ => none }
def ChangeNetsWrongFalsely : Prop := changeNetsRow.holds Try.pinned (OpenSpec.ofChange changeNetsWrong)

/-- 'roundhouselaw17.ChangePlays': WHATEVER THE INPUT: true; the input reads as it did. -/
def changePlaysSpec : ChangeSpec := { name := "changePlays", fn := fun _ => fun
  | [d] => { results := [.lit (.bool true)], args := [d] }
  | _ => none }
def changePlaysRow : OpenClaim := { program := "ytkgkfjhfedjnpaa", sum := "8e33a76a1e75a90993b0ea11ebc7a030cbc562a482b86e08f5ac6fcbb70ec937", func := "roundhouse/roundhouselaw17.ChangePlays", spec := "changePlays", unfollowed := true, recurses := true, apart := false }
def ChangePlaysSaid : Prop := changePlaysRow.holds Try.pinned (OpenSpec.ofChange changePlaysSpec)

/-- ITS FALSE NEIGHBOUR: 'it returns false'. Refute it at one input. -/
def changePlaysWrong : ChangeSpec := { name := "changePlays", fn := fun _ => fun
  | [d] => { results := [.lit (.bool false)], args := [d] }
  | _ => none }
def ChangePlaysWrongFalsely : Prop := changePlaysRow.holds Try.pinned (OpenSpec.ofChange changePlaysWrong)

/-- 'roundhouselaw17.ChangeFlushes': WHATEVER THE INPUT: true; the input reads as it did. -/
def changeFlushesSpec : ChangeSpec := { name := "changeFlushes", fn := fun _ => fun
  | [d1, d2, d3] => { results := [.lit (.bool true)], args := [d1, d2, d3] }
  | _ => none }
def changeFlushesRow : OpenClaim := { program := "ytkgkfjhfedjnpaa", sum := "8e33a76a1e75a90993b0ea11ebc7a030cbc562a482b86e08f5ac6fcbb70ec937", func := "roundhouse/roundhouselaw17.ChangeFlushes", spec := "changeFlushes", unfollowed := true, recurses := true, apart := false }
def ChangeFlushesSaid : Prop := changeFlushesRow.holds Try.pinned (OpenSpec.ofChange changeFlushesSpec)

/-- ITS FALSE NEIGHBOUR: 'it returns false'. Refute it at one input. -/
def changeFlushesWrong : ChangeSpec := { name := "changeFlushes", fn := fun _ => fun
  | [d1, d2, d3] => { results := [.lit (.bool false)], args := [d1, d2, d3] }
  | _ => none }
def ChangeFlushesWrongFalsely : Prop := changeFlushesRow.holds Try.pinned (OpenSpec.ofChange changeFlushesWrong)

/-- 'roundhouselaw17.ChangeNames': WHATEVER THE INPUT: true; the input reads as it did. -/
def changeNamesSpec : ChangeSpec := { name := "changeNames", fn := fun _ => fun
  | [] => { results := [.lit (.bool true)], args := [] }
  | _ => none }
def changeNamesRow : OpenClaim := { program := "ytkgkfjhfedjnpaa", sum := "8e33a76a1e75a90993b0ea11ebc7a030cbc562a482b86e08f5ac6fcbb70ec937", func := "roundhouse/roundhouselaw17.ChangeNames", spec := "changeNames", unfollowed := true, recurses := true, apart := false }
def ChangeNamesSaid : Prop := changeNamesRow.holds Try.pinned (OpenSpec.ofChange changeNamesSpec)

/-- ITS FALSE NEIGHBOUR: 'it returns false'. Refute it at one input. -/
def changeNamesWrong : ChangeSpec := { name := "changeNames", fn := fun _ => fun
  | [] => { results := [.lit (.bool false)], args := [] }
  | _ => none }
def ChangeNamesWrongFalsely : Prop := changeNamesRow.holds Try.pinned (OpenSpec.ofChange changeNamesWrong)

/- THE SECOND FORM. 'bulk': how many values and letters a reading holds, each counted each time it is reached (what is shared counts as often as it is met; a slice's spare places count too). A statement '..UptoSaid' is the law's where the arguments, and the package variables that the reading takes, are together of bulk at most 1048576: NARROWER than '..Said'. Prove '..Said' where nothing that the law and all that it calls make is longer than what came in: it says more and counts as full. Else prove '..UptoSaid'. A law counts once. -/
mutual
def uptoBulk {H : Type} : DataW H → Nat
  | .lit (.string bytes) => bytes.length + 1
  | .lit _ => 1
  | .nil => 1
  | .ptr d => uptoBulk d + 1
  | .slice elems spare => uptoBulkAll elems + uptoBulkAll spare + 1
  | .agg parts => uptoBulkAll parts + 1
  | .iface _ d => uptoBulk d + 1
  | .map entries => uptoBulkEntries entries + 1
  | .held _ => 1
def uptoBulkAll {H : Type} : List (DataW H) → Nat
  | [] => 0
  | d :: r => uptoBulk d + uptoBulkAll r
def uptoBulkEntries {H : Type} : List (Lit × DataW H) → Nat
  | [] => 0
  | x :: r => uptoBulkEntry x + uptoBulkEntries r
def uptoBulkEntry {H : Type} : Lit × DataW H → Nat
  | (.string bytes, d) => bytes.length + uptoBulk d + 1
  | (_, d) => uptoBulk d + 1
 end
def uptoSmall : (H : Type) → List (DataW H) → Bool := fun _ ds => decide (uptoBulkAll ds ≤ 1048576)
def OpenSpec.upto (s : _root_.Go.ChangeSpec) : _root_.Go.OpenSpec := { _root_.Go.OpenSpec.ofChange s with cond := some uptoSmall }

/-- 'roundhouselaw15.EplShuffles', WHERE WHAT IT READS IS OF BULK AT MOST 1048576: true; the input reads as it did. -/
def eplShufflesUptoRow : OpenClaim := { program := "ytkgkfjhfedjnpaa", sum := "8e33a76a1e75a90993b0ea11ebc7a030cbc562a482b86e08f5ac6fcbb70ec937", func := "roundhouse/roundhouselaw15.EplShuffles", spec := "eplShuffles", apart := false, narrowed := true }
def EplShufflesUptoSaid : Prop := eplShufflesUptoRow.holds Try.pinned (OpenSpec.upto eplShufflesSpec)

/-- 'roundhouselaw17.ChangeSays', WHERE WHAT IT READS IS OF BULK AT MOST 1048576: true; the input reads as it did. -/
def changeSaysUptoRow : OpenClaim := { program := "ytkgkfjhfedjnpaa", sum := "8e33a76a1e75a90993b0ea11ebc7a030cbc562a482b86e08f5ac6fcbb70ec937", func := "roundhouse/roundhouselaw17.ChangeSays", spec := "changeSays", apart := false, narrowed := true }
def ChangeSaysUptoSaid : Prop := changeSaysUptoRow.holds Try.pinned (OpenSpec.upto changeSaysSpec)

/-- 'roundhouselaw17.ChangeLast', WHERE WHAT IT READS IS OF BULK AT MOST 1048576: true; the input reads as it did. -/
def changeLastUptoRow : OpenClaim := { program := "ytkgkfjhfedjnpaa", sum := "8e33a76a1e75a90993b0ea11ebc7a030cbc562a482b86e08f5ac6fcbb70ec937", func := "roundhouse/roundhouselaw17.ChangeLast", spec := "changeLast", unfollowed := true, recurses := true, apart := false, narrowed := true }
def ChangeLastUptoSaid : Prop := changeLastUptoRow.holds Try.pinned (OpenSpec.upto changeLastSpec)

/-- 'roundhouselaw17.ChangeNets', WHERE WHAT IT READS IS OF BULK AT MOST 1048576: true; the input reads as it did. -/
def changeNetsUptoRow : OpenClaim := { program := "ytkgkfjhfedjnpaa", sum := "8e33a76a1e75a90993b0ea11ebc7a030cbc562a482b86e08f5ac6fcbb70ec937", func := "roundhouse/roundhouselaw17.ChangeNets", spec := "changeNets", unfollowed := true, recurses := true, apart := false, narrowed := true }
def ChangeNetsUptoSaid : Prop := changeNetsUptoRow.holds Try.pinned (OpenSpec.upto changeNetsSpec)

/-- 'roundhouselaw17.ChangePlays', WHERE WHAT IT READS IS OF BULK AT MOST 1048576: true; the input reads as it did. -/
def changePlaysUptoRow : OpenClaim := { program := "ytkgkfjhfedjnpaa", sum := "8e33a76a1e75a90993b0ea11ebc7a030cbc562a482b86e08f5ac6fcbb70ec937", func := "roundhouse/roundhouselaw17.ChangePlays", spec := "changePlays", unfollowed := true, recurses := true, apart := false, narrowed := true }
def ChangePlaysUptoSaid : Prop := changePlaysUptoRow.holds Try.pinned (OpenSpec.upto changePlaysSpec)

/-- 'roundhouselaw17.ChangeFlushes', WHERE WHAT IT READS IS OF BULK AT MOST 1048576: true; the input reads as it did. -/
def changeFlushesUptoRow : OpenClaim := { program := "ytkgkfjhfedjnpaa", sum := "8e33a76a1e75a90993b0ea11ebc7a030cbc562a482b86e08f5ac6fcbb70ec937", func := "roundhouse/roundhouselaw17.ChangeFlushes", spec := "changeFlushes", unfollowed := true, recurses := true, apart := false, narrowed := true }
def ChangeFlushesUptoSaid : Prop := changeFlushesUptoRow.holds Try.pinned (OpenSpec.upto changeFlushesSpec)

/-- 'roundhouselaw17.ChangeNames', WHERE WHAT IT READS IS OF BULK AT MOST 1048576: true; the input reads as it did. -/
def changeNamesUptoRow : OpenClaim := { program := "ytkgkfjhfedjnpaa", sum := "8e33a76a1e75a90993b0ea11ebc7a030cbc562a482b86e08f5ac6fcbb70ec937", func := "roundhouse/roundhouselaw17.ChangeNames", spec := "changeNames", unfollowed := true, recurses := true, apart := false, narrowed := true }
def ChangeNamesUptoSaid : Prop := changeNamesUptoRow.holds Try.pinned (OpenSpec.upto changeNamesSpec)

end Rows
end Go.Proofs.Ytkgkfjhfedjnpaa
