/-
  NARROWER THAN 'FOR EVERY INPUT', by the rows' own cells (each row's printed sentence says how): LimitWhen: laid · LimitNames: laid · LimitBounds: laid · LimitFree: laid.
  DERIVED. THE GIVEN ROWS OF THIS SEAT. 4 by the template 'for every input the law returns true; each argument reads behind the call as it read before'; 0 by the template 'total and deterministic' (their statements: YtmpemhbfgbochaaDoorTotals.lean).
  GIVEN WITH THE SEED: the statements are not yours to turn. If you find one false, say at which input.
  Laid BY PROGRAM, IN A SANDBOX (cutbox-rows.mjs): the forced cells as the released guide's own fill.sh prints them over the translation c534f92d016838ac… (all of the seat's roots in one cut). By AI agents, Wed Nov 11 2026. No macro, syntax, notation, axiom, sorry.
-/
import Derived.Test.YtmpemhbfgbochaaDoorChecked
import GoSem.Claim
import GoSem.ClaimJoined
import GoSem.ClaimMapViews
import Derived.JoinedTies
import Derived.KernelRfl
namespace Go.Proofs.YtmpemhbfgbochaaDoor
/- THE CELL 'sum', in the pinned program and in every row, IS THE sha256 OF THE DUMP (.gsa) THAT YtmpemhbfgbochaaDoorProg.lean LOADS. Nothing in Lean hashes anything: it is a label: what it is worth is what the hold of that sum in a sandbox is worth. -/
noncomputable def Tryd.pinned : Pinned := { name := "ytmpemhbfgbochaadoor", sum := "c534f92d016838ac3f39730e551a29bb5311ab768efb49c3ab110b6c0734ddd8", checked := Tryd.checked }
namespace Rows
def none {H : Type} : Left H := { results := [], args := [] }

/- WHAT THE LISTED PACKAGE-LEVEL VARIABLES READ AS WHEN THE CALL BEGINS. Each datum BY PROGRAM (the guide's laid-datum.mjs) off the statement by which the dump's own 'gosem.cut.vars' lays the variable. In a bare row this is a premise. The card (YtmpemhbfgbochaaDoorCards.lean) ties it to the program's text. -/
def laid_roundhouse_limit_flags {H : Type} : DataW H := .agg [.lit (.int .i64 2), .lit (.int .i64 4)]

/-- 'roundhouselaw27.LimitWhen': WHATEVER THE INPUT: true; the input reads as it did. -/
def limitWhenSpec : ChangeSpec := { name := "limitWhen", fn := fun _ => fun
  | [d1, d2] => { results := [.lit (.bool true)], args := [d1, d2] }
  | _ => none }
def limitWhenRow : OpenClaim := { program := "ytmpemhbfgbochaadoor", sum := "c534f92d016838ac3f39730e551a29bb5311ab768efb49c3ab110b6c0734ddd8", func := "roundhouse/roundhouselaw27.LimitWhen", spec := "limitWhen", unfollowed := true, recurses := true, named := ["roundhouse/limit.flags"], apart := false, laid := [("roundhouse/limit.flags", laid_roundhouse_limit_flags)] }
def LimitWhenSaid : Prop := limitWhenRow.holds Tryd.pinned (OpenSpec.ofChange limitWhenSpec)

/-- ITS FALSE NEIGHBOUR: 'it returns false'. Refute it at one input. -/
def limitWhenWrong : ChangeSpec := { name := "limitWhen", fn := fun _ => fun
  | [d1, d2] => { results := [.lit (.bool false)], args := [d1, d2] }
  | _ => none }
def LimitWhenWrongFalsely : Prop := limitWhenRow.holds Tryd.pinned (OpenSpec.ofChange limitWhenWrong)

/-- 'roundhouselaw27.LimitNames': WHATEVER THE INPUT: true; the input reads as it did. -/
def limitNamesSpec : ChangeSpec := { name := "limitNames", fn := fun _ => fun
  | [] => { results := [.lit (.bool true)], args := [] }
  | _ => none }
def limitNamesRow : OpenClaim := { program := "ytmpemhbfgbochaadoor", sum := "c534f92d016838ac3f39730e551a29bb5311ab768efb49c3ab110b6c0734ddd8", func := "roundhouse/roundhouselaw27.LimitNames", spec := "limitNames", unfollowed := true, recurses := true, named := ["roundhouse/limit.flags"], apart := false, laid := [("roundhouse/limit.flags", laid_roundhouse_limit_flags)] }
def LimitNamesSaid : Prop := limitNamesRow.holds Tryd.pinned (OpenSpec.ofChange limitNamesSpec)

/-- ITS FALSE NEIGHBOUR: 'it returns false'. Refute it at one input. -/
def limitNamesWrong : ChangeSpec := { name := "limitNames", fn := fun _ => fun
  | [] => { results := [.lit (.bool false)], args := [] }
  | _ => none }
def LimitNamesWrongFalsely : Prop := limitNamesRow.holds Tryd.pinned (OpenSpec.ofChange limitNamesWrong)

/-- 'roundhouselaw27.LimitBounds': WHATEVER THE INPUT: true; the input reads as it did. -/
def limitBoundsSpec : ChangeSpec := { name := "limitBounds", fn := fun _ => fun
  | [d1, d2, d3] => { results := [.lit (.bool true)], args := [d1, d2, d3] }
  | _ => none }
def limitBoundsRow : OpenClaim := { program := "ytmpemhbfgbochaadoor", sum := "c534f92d016838ac3f39730e551a29bb5311ab768efb49c3ab110b6c0734ddd8", func := "roundhouse/roundhouselaw27.LimitBounds", spec := "limitBounds", unfollowed := true, recurses := true, named := ["roundhouse/limit.flags"], apart := false, laid := [("roundhouse/limit.flags", laid_roundhouse_limit_flags)] }
def LimitBoundsSaid : Prop := limitBoundsRow.holds Tryd.pinned (OpenSpec.ofChange limitBoundsSpec)

/-- ITS FALSE NEIGHBOUR: 'it returns false'. Refute it at one input. -/
def limitBoundsWrong : ChangeSpec := { name := "limitBounds", fn := fun _ => fun
  | [d1, d2, d3] => { results := [.lit (.bool false)], args := [d1, d2, d3] }
  | _ => none }
def LimitBoundsWrongFalsely : Prop := limitBoundsRow.holds Tryd.pinned (OpenSpec.ofChange limitBoundsWrong)

/-- 'roundhouselaw27.LimitFree': WHATEVER THE INPUT: true; the input reads as it did. -/
def limitFreeSpec : ChangeSpec := { name := "limitFree", fn := fun _ => fun
  | [d1, d2, d3, d4] => { results := [.lit (.bool true)], args := [d1, d2, d3, d4] }
  | _ => none }
def limitFreeRow : OpenClaim := { program := "ytmpemhbfgbochaadoor", sum := "c534f92d016838ac3f39730e551a29bb5311ab768efb49c3ab110b6c0734ddd8", func := "roundhouse/roundhouselaw27.LimitFree", spec := "limitFree", unfollowed := true, recurses := true, named := ["roundhouse/limit.flags"], apart := false, laid := [("roundhouse/limit.flags", laid_roundhouse_limit_flags)] }
def LimitFreeSaid : Prop := limitFreeRow.holds Tryd.pinned (OpenSpec.ofChange limitFreeSpec)

/-- ITS FALSE NEIGHBOUR: 'it returns false'. Refute it at one input. -/
def limitFreeWrong : ChangeSpec := { name := "limitFree", fn := fun _ => fun
  | [d1, d2, d3, d4] => { results := [.lit (.bool false)], args := [d1, d2, d3, d4] }
  | _ => none }
def LimitFreeWrongFalsely : Prop := limitFreeRow.holds Tryd.pinned (OpenSpec.ofChange limitFreeWrong)

/- THE SECOND FORM. 'bulk': how many values and letters a reading holds, each counted each time it is reached (what is shared counts as often as it is met; a slice's spare places count too). A statement '..UptoSaid' is the law's where the arguments, and the package variables that the reading takes, are together of bulk at most 1048576: NARROWER than '..Said'. Prove '..Said' where nothing that the law and all that it calls make is longer than what came in: it says more and counts as full. Else prove '..UptoSaid'. A law counts once. -/
mutual
def uptoBulk {H : Type} : DataW H → Nat
  | .lit (.string bytes) => bytes.length + 1
  | .lit _ => 1
  | .nil => 1
  | .ptr d => uptoBulk d + 1
  | .slice elems spare => uptoBulkAll elems + uptoBulkAll spare + 1
  | .agg parts => uptoBulkAll parts + 1
  | .iface _ d => uptoBulk d + 1
  | .map entries => uptoBulkEntries entries + 1
  | .held _ => 1
def uptoBulkAll {H : Type} : List (DataW H) → Nat
  | [] => 0
  | d :: r => uptoBulk d + uptoBulkAll r
def uptoBulkEntries {H : Type} : List (Lit × DataW H) → Nat
  | [] => 0
  | x :: r => uptoBulkEntry x + uptoBulkEntries r
def uptoBulkEntry {H : Type} : Lit × DataW H → Nat
  | (.string bytes, d) => bytes.length + uptoBulk d + 1
  | (_, d) => uptoBulk d + 1
 end
def uptoSmall : (H : Type) → List (DataW H) → Bool := fun _ ds => decide (uptoBulkAll ds ≤ 1048576)
def OpenSpec.upto (s : _root_.Go.ChangeSpec) : _root_.Go.OpenSpec := { _root_.Go.OpenSpec.ofChange s with cond := some uptoSmall }

/-- 'roundhouselaw27.LimitWhen', WHERE WHAT IT READS IS OF BULK AT MOST 1048576: true; the input reads as it did. -/
def limitWhenUptoRow : OpenClaim := { program := "ytmpemhbfgbochaadoor", sum := "c534f92d016838ac3f39730e551a29bb5311ab768efb49c3ab110b6c0734ddd8", func := "roundhouse/roundhouselaw27.LimitWhen", spec := "limitWhen", unfollowed := true, recurses := true, named := ["roundhouse/limit.flags"], apart := false, laid := [("roundhouse/limit.flags", laid_roundhouse_limit_flags)], narrowed := true }
def LimitWhenUptoSaid : Prop := limitWhenUptoRow.holds Tryd.pinned (OpenSpec.upto limitWhenSpec)

/-- 'roundhouselaw27.LimitNames', WHERE WHAT IT READS IS OF BULK AT MOST 1048576: true; the input reads as it did. -/
def limitNamesUptoRow : OpenClaim := { program := "ytmpemhbfgbochaadoor", sum := "c534f92d016838ac3f39730e551a29bb5311ab768efb49c3ab110b6c0734ddd8", func := "roundhouse/roundhouselaw27.LimitNames", spec := "limitNames", unfollowed := true, recurses := true, named := ["roundhouse/limit.flags"], apart := false, laid := [("roundhouse/limit.flags", laid_roundhouse_limit_flags)], narrowed := true }
def LimitNamesUptoSaid : Prop := limitNamesUptoRow.holds Tryd.pinned (OpenSpec.upto limitNamesSpec)

/-- 'roundhouselaw27.LimitBounds', WHERE WHAT IT READS IS OF BULK AT MOST 1048576: true; the input reads as it did. -/
def limitBoundsUptoRow : OpenClaim := { program := "ytmpemhbfgbochaadoor", sum := "c534f92d016838ac3f39730e551a29bb5311ab768efb49c3ab110b6c0734ddd8", func := "roundhouse/roundhouselaw27.LimitBounds", spec := "limitBounds", unfollowed := true, recurses := true, named := ["roundhouse/limit.flags"], apart := false, laid := [("roundhouse/limit.flags", laid_roundhouse_limit_flags)], narrowed := true }
def LimitBoundsUptoSaid : Prop := limitBoundsUptoRow.holds Tryd.pinned (OpenSpec.upto limitBoundsSpec)

/-- 'roundhouselaw27.LimitFree', WHERE WHAT IT READS IS OF BULK AT MOST 1048576: true; the input reads as it did. -/
def limitFreeUptoRow : OpenClaim := { program := "ytmpemhbfgbochaadoor", sum := "c534f92d016838ac3f39730e551a29bb5311ab768efb49c3ab110b6c0734ddd8", func := "roundhouse/roundhouselaw27.LimitFree", spec := "limitFree", unfollowed := true, recurses := true, named := ["roundhouse/limit.flags"], apart := false, laid := [("roundhouse/limit.flags", laid_roundhouse_limit_flags)], narrowed := true }
def LimitFreeUptoSaid : Prop := limitFreeUptoRow.holds Tryd.pinned (OpenSpec.upto limitFreeSpec)

end Rows
end Go.Proofs.YtmpemhbfgbochaaDoor
