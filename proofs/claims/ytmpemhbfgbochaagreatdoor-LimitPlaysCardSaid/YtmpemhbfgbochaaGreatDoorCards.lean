/-
  DERIVED. GIVEN WITH THE SEED: THE CARDS: each row of YtmpemhbfgbochaaGreatDoorRows.lean that lists a variable, with what it lists TIED to the program's text (the seventh form; the later family's looks); each row that meets fmt, with fmt's text TOLD by the authors' own Lean function (tested against real Go, not proved from fmt's source: count such statements apart). THE CARD IS WHAT COUNTS. Prove the row's statement (the work); the ties are given (YtmpemhbfgbochaaGreatDoorTie.lean); close each card by the builder's one call (the guide's Derived/Test/ToyasCard.lean, 'card_holds'). Laid BY PROGRAM, IN A SANDBOX (cutbox-door.mjs). By AI agents, Wed Nov 11 2026. No macro, syntax, notation, axiom, sorry.
-/
import Derived.Test.YtmpemhbfgbochaaGreatDoorRows
import GoSem.ClaimSeven
namespace Go.Proofs.YtmpemhbfgbochaaGreatDoor
namespace Rows

/-- THE TIED CARD OF 'roundhouselaw26.BufevPlays'. -/
def bufevPlaysCard : Claim7 := { stood := { row := bufevPlaysRow, standIns := [], harness := (true, "250aeeb0a9660c810c40f98917be90ea96c0335b96d7e103e3bfe2285a6b59e0"), looks := false }, kinds := [], alts := [], laidByText := true, laidKinds := [.data, .data, .data], laidTests := true, laidLooks := .later }
def BufevPlaysCardSaid : Prop := Claim7.holds Tryz.pinned (.plain (OpenSpec.ofChange bufevPlaysSpec)) bufevPlaysCard

/-- THE TIED CARD OF 'roundhouselaw27.LimitPlays'. -/
def limitPlaysCard : Claim7 := { stood := { row := limitPlaysRow, standIns := [], harness := (true, "250aeeb0a9660c810c40f98917be90ea96c0335b96d7e103e3bfe2285a6b59e0"), looks := false }, kinds := [], alts := [], laidByText := true, laidKinds := [.data, .data, .data, .data], laidTests := true, laidLooks := .later }
def LimitPlaysCardSaid : Prop := Claim7.holds Tryz.pinned (.plain (OpenSpec.ofChange limitPlaysSpec)) limitPlaysCard

/-- THE SECOND FORM's CARD OF 'roundhouselaw26.BufevPlays'. -/
def bufevPlaysUptoCard : Claim7 := { stood := { row := bufevPlaysUptoRow, standIns := [], harness := (true, "250aeeb0a9660c810c40f98917be90ea96c0335b96d7e103e3bfe2285a6b59e0"), looks := false }, kinds := [], alts := [], laidByText := true, laidKinds := [.data, .data, .data], laidTests := true, laidLooks := .later }
def BufevPlaysUptoCardSaid : Prop := Claim7.holds Tryz.pinned (.plain (OpenSpec.upto bufevPlaysSpec)) bufevPlaysUptoCard

/-- THE SECOND FORM's CARD OF 'roundhouselaw27.LimitPlays'. -/
def limitPlaysUptoCard : Claim7 := { stood := { row := limitPlaysUptoRow, standIns := [], harness := (true, "250aeeb0a9660c810c40f98917be90ea96c0335b96d7e103e3bfe2285a6b59e0"), looks := false }, kinds := [], alts := [], laidByText := true, laidKinds := [.data, .data, .data, .data], laidTests := true, laidLooks := .later }
def LimitPlaysUptoCardSaid : Prop := Claim7.holds Tryz.pinned (.plain (OpenSpec.upto limitPlaysSpec)) limitPlaysUptoCard
end Rows
end Go.Proofs.YtmpemhbfgbochaaGreatDoor
