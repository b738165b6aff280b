/-
  No cell of these rows narrows 'for every input' (looked for: loops, veiled, ifaces, maps, wideKeys, modest, calm, conditions, laid).
  DERIVED. THE GIVEN ROWS OF THIS SEAT. 3 by the template 'for every input the law returns true; each argument reads behind the call as it read before'; 0 by the template 'total and deterministic' (their statements: YtbfddabjbkohdaaTotals.lean).
  GIVEN WITH THE SEED: the statements are not yours to turn. If you find one false, say at which input.
  Laid BY PROGRAM, IN A SANDBOX (cutbox-rows.mjs): the forced cells as the released guide's own fill.sh prints them over the translation 2edf90b8efb2ba45… (all of the seat's roots in one cut). By AI agents, Wed Nov 11 2026. No macro, syntax, notation, axiom, sorry.
-/
import Derived.Test.YtbfddabjbkohdaaChecked
import GoSem.Claim
import GoSem.ClaimJoined
import GoSem.ClaimMapViews
import Derived.JoinedTies
import Derived.KernelRfl
namespace Go.Proofs.Ytbfddabjbkohdaa
/- THE CELL 'sum', in the pinned program and in every row, IS THE sha256 OF THE DUMP (.gsa) THAT YtbfddabjbkohdaaProg.lean LOADS. Nothing in Lean hashes anything: it is a label: what it is worth is what the hold of that sum in a sandbox is worth. -/
noncomputable def Try.pinned : Pinned := { name := "ytbfddabjbkohdaa", sum := "2edf90b8efb2ba45ea27627223bda034ed69e4f7c055c2e0ab83d8d16badb825", checked := Try.checked }
namespace Rows
def none {H : Type} : Left H := { results := [], args := [] }

/-- 'roundhouselaw15.EplOrders': WHATEVER THE INPUT: true; the input reads as it did. -/
def eplOrdersSpec : ChangeSpec := { name := "eplOrders", fn := fun _ => fun
  | [d1, d2] => { results := [.lit (.bool true)], args := [d1, d2] }
  | _ => none }
def eplOrdersRow : OpenClaim := { program := "ytbfddabjbkohdaa", sum := "2edf90b8efb2ba45ea27627223bda034ed69e4f7c055c2e0ab83d8d16badb825", func := "roundhouse/roundhouselaw15.EplOrders", spec := "eplOrders", unfollowed := true, recurses := true, plainKeys := false, apart := false }
def EplOrdersSaid : Prop := eplOrdersRow.holds Try.pinned (OpenSpec.ofChange eplOrdersSpec)

/-- ITS FALSE NEIGHBOUR: 'it returns false'. Refute it at one input. -/
def eplOrdersWrong : ChangeSpec := { name := "eplOrders", fn := fun _ => fun
  | [d1, d2] => { results := [.lit (.bool false)], args := [d1, d2] }
  | _ => none }
def EplOrdersWrongFalsely : Prop := eplOrdersRow.holds Try.pinned (OpenSpec.ofChange eplOrdersWrong)

/-- 'roundhouselaw15.EplNames': WHATEVER THE INPUT: true; the input reads as it did. -/
def eplNamesSpec : ChangeSpec := { name := "eplNames", fn := fun _ => fun
  | [] => { results := [.lit (.bool true)], args := [] }
  | _ => none }
def eplNamesRow : OpenClaim := { program := "ytbfddabjbkohdaa", sum := "2edf90b8efb2ba45ea27627223bda034ed69e4f7c055c2e0ab83d8d16badb825", func := "roundhouse/roundhouselaw15.EplNames", spec := "eplNames", unfollowed := true, recurses := true, plainKeys := false, apart := false }
def EplNamesSaid : Prop := eplNamesRow.holds Try.pinned (OpenSpec.ofChange eplNamesSpec)

/-- ITS FALSE NEIGHBOUR: 'it returns false'. Refute it at one input. -/
def eplNamesWrong : ChangeSpec := { name := "eplNames", fn := fun _ => fun
  | [] => { results := [.lit (.bool false)], args := [] }
  | _ => none }
def EplNamesWrongFalsely : Prop := eplNamesRow.holds Try.pinned (OpenSpec.ofChange eplNamesWrong)

/-- 'roundhouselaw16.KquNames': WHATEVER THE INPUT: true; the input reads as it did. -/
def kquNamesSpec : ChangeSpec := { name := "kquNames", fn := fun _ => fun
  | [] => { results := [.lit (.bool true)], args := [] }
  | _ => none }
def kquNamesRow : OpenClaim := { program := "ytbfddabjbkohdaa", sum := "2edf90b8efb2ba45ea27627223bda034ed69e4f7c055c2e0ab83d8d16badb825", func := "roundhouse/roundhouselaw16.KquNames", spec := "kquNames", unfollowed := true, recurses := true, plainKeys := false, apart := false }
def KquNamesSaid : Prop := kquNamesRow.holds Try.pinned (OpenSpec.ofChange kquNamesSpec)

/-- ITS FALSE NEIGHBOUR: 'it returns false'. Refute it at one input. -/
def kquNamesWrong : ChangeSpec := { name := "kquNames", fn := fun _ => fun
  | [] => { results := [.lit (.bool false)], args := [] }
  | _ => none }
def KquNamesWrongFalsely : Prop := kquNamesRow.holds Try.pinned (OpenSpec.ofChange kquNamesWrong)

/- THE SECOND FORM. 'bulk': how many values and letters a reading holds, each counted each time it is reached (what is shared counts as often as it is met; a slice's spare places count too). A statement '..UptoSaid' is the law's where the arguments, and the package variables that the reading takes, are together of bulk at most 1048576: NARROWER than '..Said'. Prove '..Said' where nothing that the law and all that it calls make is longer than what came in: it says more and counts as full. Else prove '..UptoSaid'. A law counts once. -/
mutual
def uptoBulk {H : Type} : DataW H → Nat
  | .lit (.string bytes) => bytes.length + 1
  | .lit _ => 1
  | .nil => 1
  | .ptr d => uptoBulk d + 1
  | .slice elems spare => uptoBulkAll elems + uptoBulkAll spare + 1
  | .agg parts => uptoBulkAll parts + 1
  | .iface _ d => uptoBulk d + 1
  | .map entries => uptoBulkEntries entries + 1
  | .held _ => 1
def uptoBulkAll {H : Type} : List (DataW H) → Nat
  | [] => 0
  | d :: r => uptoBulk d + uptoBulkAll r
def uptoBulkEntries {H : Type} : List (Lit × DataW H) → Nat
  | [] => 0
  | x :: r => uptoBulkEntry x + uptoBulkEntries r
def uptoBulkEntry {H : Type} : Lit × DataW H → Nat
  | (.string bytes, d) => bytes.length + uptoBulk d + 1
  | (_, d) => uptoBulk d + 1
 end
def uptoSmall : (H : Type) → List (DataW H) → Bool := fun _ ds => decide (uptoBulkAll ds ≤ 1048576)
def OpenSpec.upto (s : _root_.Go.ChangeSpec) : _root_.Go.OpenSpec := { _root_.Go.OpenSpec.ofChange s with cond := some uptoSmall }

/-- 'roundhouselaw15.EplOrders', WHERE WHAT IT READS IS OF BULK AT MOST 1048576: true; the input reads as it did. -/
def eplOrdersUptoRow : OpenClaim := { program := "ytbfddabjbkohdaa", sum := "2edf90b8efb2ba45ea27627223bda034ed69e4f7c055c2e0ab83d8d16badb825", func := "roundhouse/roundhouselaw15.EplOrders", spec := "eplOrders", unfollowed := true, recurses := true, plainKeys := false, apart := false, narrowed := true }
def EplOrdersUptoSaid : Prop := eplOrdersUptoRow.holds Try.pinned (OpenSpec.upto eplOrdersSpec)

/-- 'roundhouselaw15.EplNames', WHERE WHAT IT READS IS OF BULK AT MOST 1048576: true; the input reads as it did. -/
def eplNamesUptoRow : OpenClaim := { program := "ytbfddabjbkohdaa", sum := "2edf90b8efb2ba45ea27627223bda034ed69e4f7c055c2e0ab83d8d16badb825", func := "roundhouse/roundhouselaw15.EplNames", spec := "eplNames", unfollowed := true, recurses := true, plainKeys := false, apart := false, narrowed := true }
def EplNamesUptoSaid : Prop := eplNamesUptoRow.holds Try.pinned (OpenSpec.upto eplNamesSpec)

/-- 'roundhouselaw16.KquNames', WHERE WHAT IT READS IS OF BULK AT MOST 1048576: true; the input reads as it did. -/
def kquNamesUptoRow : OpenClaim := { program := "ytbfddabjbkohdaa", sum := "2edf90b8efb2ba45ea27627223bda034ed69e4f7c055c2e0ab83d8d16badb825", func := "roundhouse/roundhouselaw16.KquNames", spec := "kquNames", unfollowed := true, recurses := true, plainKeys := false, apart := false, narrowed := true }
def KquNamesUptoSaid : Prop := kquNamesUptoRow.holds Try.pinned (OpenSpec.upto kquNamesSpec)

end Rows
end Go.Proofs.Ytbfddabjbkohdaa
