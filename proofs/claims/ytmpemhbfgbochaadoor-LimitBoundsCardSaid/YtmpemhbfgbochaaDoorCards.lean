/-
  DERIVED. GIVEN WITH THE SEED: THE CARDS: each row of YtmpemhbfgbochaaDoorRows.lean that lists a variable, with what it lists TIED to the program's text (the seventh form; the later family's looks); each row that meets fmt, with fmt's text TOLD by the authors' own Lean function (tested against real Go, not proved from fmt's source: count such statements apart). THE CARD IS WHAT COUNTS. Prove the row's statement (the work); the ties are given (YtmpemhbfgbochaaDoorTie.lean); close each card by the builder's one call (the guide's Derived/Test/ToyasCard.lean, 'card_holds'). Laid BY PROGRAM, IN A SANDBOX (cutbox-door.mjs). By AI agents, Wed Nov 11 2026. No macro, syntax, notation, axiom, sorry.
-/
import Derived.Test.YtmpemhbfgbochaaDoorRows
import GoSem.ClaimSeven
namespace Go.Proofs.YtmpemhbfgbochaaDoor
namespace Rows

/-- THE TIED CARD OF 'roundhouselaw27.LimitWhen'. -/
def limitWhenCard : Claim7 := { stood := { row := limitWhenRow, standIns := [], harness := (true, "ee45d54167251f44db6b57fd7fc05ffa4bf46bea29e11766efe39284893b2154"), looks := false }, kinds := [], alts := [], laidByText := true, laidKinds := [.data], laidTests := true, laidLooks := .later }
def LimitWhenCardSaid : Prop := Claim7.holds Tryd.pinned (.plain (OpenSpec.ofChange limitWhenSpec)) limitWhenCard

/-- THE TIED CARD OF 'roundhouselaw27.LimitNames'. -/
def limitNamesCard : Claim7 := { stood := { row := limitNamesRow, standIns := [], harness := (true, "ee45d54167251f44db6b57fd7fc05ffa4bf46bea29e11766efe39284893b2154"), looks := false }, kinds := [], alts := [], laidByText := true, laidKinds := [.data], laidTests := true, laidLooks := .later }
def LimitNamesCardSaid : Prop := Claim7.holds Tryd.pinned (.plain (OpenSpec.ofChange limitNamesSpec)) limitNamesCard

/-- THE TIED CARD OF 'roundhouselaw27.LimitBounds'. -/
def limitBoundsCard : Claim7 := { stood := { row := limitBoundsRow, standIns := [], harness := (true, "ee45d54167251f44db6b57fd7fc05ffa4bf46bea29e11766efe39284893b2154"), looks := false }, kinds := [], alts := [], laidByText := true, laidKinds := [.data], laidTests := true, laidLooks := .later }
def LimitBoundsCardSaid : Prop := Claim7.holds Tryd.pinned (.plain (OpenSpec.ofChange limitBoundsSpec)) limitBoundsCard

/-- THE TIED CARD OF 'roundhouselaw27.LimitFree'. -/
def limitFreeCard : Claim7 := { stood := { row := limitFreeRow, standIns := [], harness := (true, "ee45d54167251f44db6b57fd7fc05ffa4bf46bea29e11766efe39284893b2154"), looks := false }, kinds := [], alts := [], laidByText := true, laidKinds := [.data], laidTests := true, laidLooks := .later }
def LimitFreeCardSaid : Prop := Claim7.holds Tryd.pinned (.plain (OpenSpec.ofChange limitFreeSpec)) limitFreeCard

/-- THE SECOND FORM's CARD OF 'roundhouselaw27.LimitWhen'. -/
def limitWhenUptoCard : Claim7 := { stood := { row := limitWhenUptoRow, standIns := [], harness := (true, "ee45d54167251f44db6b57fd7fc05ffa4bf46bea29e11766efe39284893b2154"), looks := false }, kinds := [], alts := [], laidByText := true, laidKinds := [.data], laidTests := true, laidLooks := .later }
def LimitWhenUptoCardSaid : Prop := Claim7.holds Tryd.pinned (.plain (OpenSpec.upto limitWhenSpec)) limitWhenUptoCard

/-- THE SECOND FORM's CARD OF 'roundhouselaw27.LimitNames'. -/
def limitNamesUptoCard : Claim7 := { stood := { row := limitNamesUptoRow, standIns := [], harness := (true, "ee45d54167251f44db6b57fd7fc05ffa4bf46bea29e11766efe39284893b2154"), looks := false }, kinds := [], alts := [], laidByText := true, laidKinds := [.data], laidTests := true, laidLooks := .later }
def LimitNamesUptoCardSaid : Prop := Claim7.holds Tryd.pinned (.plain (OpenSpec.upto limitNamesSpec)) limitNamesUptoCard

/-- THE SECOND FORM's CARD OF 'roundhouselaw27.LimitBounds'. -/
def limitBoundsUptoCard : Claim7 := { stood := { row := limitBoundsUptoRow, standIns := [], harness := (true, "ee45d54167251f44db6b57fd7fc05ffa4bf46bea29e11766efe39284893b2154"), looks := false }, kinds := [], alts := [], laidByText := true, laidKinds := [.data], laidTests := true, laidLooks := .later }
def LimitBoundsUptoCardSaid : Prop := Claim7.holds Tryd.pinned (.plain (OpenSpec.upto limitBoundsSpec)) limitBoundsUptoCard

/-- THE SECOND FORM's CARD OF 'roundhouselaw27.LimitFree'. -/
def limitFreeUptoCard : Claim7 := { stood := { row := limitFreeUptoRow, standIns := [], harness := (true, "ee45d54167251f44db6b57fd7fc05ffa4bf46bea29e11766efe39284893b2154"), looks := false }, kinds := [], alts := [], laidByText := true, laidKinds := [.data], laidTests := true, laidLooks := .later }
def LimitFreeUptoCardSaid : Prop := Claim7.holds Tryd.pinned (.plain (OpenSpec.upto limitFreeSpec)) limitFreeUptoCard
end Rows
end Go.Proofs.YtmpemhbfgbochaaDoor
