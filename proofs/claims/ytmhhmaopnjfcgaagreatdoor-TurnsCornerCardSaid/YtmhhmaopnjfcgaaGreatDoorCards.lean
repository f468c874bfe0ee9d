/-
  DERIVED. GIVEN WITH THE SEED: THE CARDS: each row of YtmhhmaopnjfcgaaGreatDoorRows.lean that lists a variable, with what it lists TIED to the program's text (the seventh form; the later family's looks); each row that meets fmt, with fmt's text TOLD by the authors' own Lean function (tested against real Go, not proved from fmt's source: count such statements apart). THE CARD IS WHAT COUNTS. Prove the row's statement (the work); the ties are given (YtmhhmaopnjfcgaaGreatDoorTie.lean); close each card by the builder's one call (the guide's Derived/Test/ToyasCard.lean, 'card_holds'). Laid BY PROGRAM, IN A SANDBOX (cutbox-door.mjs). By AI agents, Wed Nov 11 2026. No macro, syntax, notation, axiom, sorry.
-/
import Derived.Test.YtmhhmaopnjfcgaaGreatDoorRows
import GoSem.ClaimSeven
namespace Go.Proofs.YtmhhmaopnjfcgaaGreatDoor
namespace Rows

/-- THE TIED CARD OF 'crimplaw27.ViewsErrors'. -/
def viewsErrorsCard : Claim7 := { stood := { row := viewsErrorsRow, standIns := [], harness := (true, "ca7ac3f785a7824564ad3e781a6372094881cd0d6c9242981a2dc11b751b4a30"), looks := false }, kinds := [], alts := [], laidByText := true, laidKinds := [.wider, .data, .data], laidTests := true, laidLooks := .later }
def ViewsErrorsCardSaid : Prop := Claim7.holds Tryz.pinned (.plain (OpenSpec.ofChange viewsErrorsSpec)) viewsErrorsCard

/-- THE TIED CARD OF 'crimplaw25.StatesFlat'. -/
def statesFlatCard : Claim7 := { stood := { row := statesFlatRow, standIns := [], harness := (true, "ca7ac3f785a7824564ad3e781a6372094881cd0d6c9242981a2dc11b751b4a30"), looks := false }, kinds := [], alts := [], laidByText := true, laidKinds := [.wider, .data], laidTests := true, laidLooks := .later }
def StatesFlatCardSaid : Prop := Claim7.holds Tryz.pinned (.plain (OpenSpec.ofChange statesFlatSpec)) statesFlatCard

/-- THE TIED CARD OF 'crimplaw25.StatesStacks'. -/
def statesStacksCard : Claim7 := { stood := { row := statesStacksRow, standIns := [], harness := (true, "ca7ac3f785a7824564ad3e781a6372094881cd0d6c9242981a2dc11b751b4a30"), looks := false }, kinds := [], alts := [], laidByText := true, laidKinds := [.wider, .data], laidTests := true, laidLooks := .later }
def StatesStacksCardSaid : Prop := Claim7.holds Tryz.pinned (.plain (OpenSpec.ofChange statesStacksSpec)) statesStacksCard

/-- THE TIED CARD OF 'crimplaw28.FoldsErrors'. -/
def foldsErrorsCard : Claim7 := { stood := { row := foldsErrorsRow, standIns := [], harness := (true, "ca7ac3f785a7824564ad3e781a6372094881cd0d6c9242981a2dc11b751b4a30"), looks := false }, kinds := [], alts := [], laidByText := true, laidKinds := [.wider, .data], laidTests := true, laidLooks := .later }
def FoldsErrorsCardSaid : Prop := Claim7.holds Tryz.pinned (.plain (OpenSpec.ofChange foldsErrorsSpec)) foldsErrorsCard

/-- THE TIED CARD OF 'crimplaw29.TurnsCorner'. -/
def turnsCornerCard : Claim7 := { stood := { row := turnsCornerRow, standIns := [], harness := (true, "ca7ac3f785a7824564ad3e781a6372094881cd0d6c9242981a2dc11b751b4a30"), looks := false }, kinds := [], alts := [], laidByText := true, laidKinds := [.wider, .data], laidTests := true, laidLooks := .later }
def TurnsCornerCardSaid : Prop := Claim7.holds Tryz.pinned (.plain (OpenSpec.ofChange turnsCornerSpec)) turnsCornerCard

/-- THE TIED CARD OF 'crimplaw29.TurnsErrors'. -/
def turnsErrorsCard : Claim7 := { stood := { row := turnsErrorsRow, standIns := [], harness := (true, "ca7ac3f785a7824564ad3e781a6372094881cd0d6c9242981a2dc11b751b4a30"), looks := false }, kinds := [], alts := [], laidByText := true, laidKinds := [.wider, .data], laidTests := true, laidLooks := .later }
def TurnsErrorsCardSaid : Prop := Claim7.holds Tryz.pinned (.plain (OpenSpec.ofChange turnsErrorsSpec)) turnsErrorsCard

/-- THE SECOND FORM's CARD OF 'crimplaw27.ViewsErrors'. -/
def viewsErrorsUptoCard : Claim7 := { stood := { row := viewsErrorsUptoRow, standIns := [], harness := (true, "ca7ac3f785a7824564ad3e781a6372094881cd0d6c9242981a2dc11b751b4a30"), looks := false }, kinds := [], alts := [], laidByText := true, laidKinds := [.wider, .data, .data], laidTests := true, laidLooks := .later }
def ViewsErrorsUptoCardSaid : Prop := Claim7.holds Tryz.pinned (.plain (OpenSpec.upto viewsErrorsSpec)) viewsErrorsUptoCard

/-- THE SECOND FORM's CARD OF 'crimplaw25.StatesFlat'. -/
def statesFlatUptoCard : Claim7 := { stood := { row := statesFlatUptoRow, standIns := [], harness := (true, "ca7ac3f785a7824564ad3e781a6372094881cd0d6c9242981a2dc11b751b4a30"), looks := false }, kinds := [], alts := [], laidByText := true, laidKinds := [.wider, .data], laidTests := true, laidLooks := .later }
def StatesFlatUptoCardSaid : Prop := Claim7.holds Tryz.pinned (.plain (OpenSpec.upto statesFlatSpec)) statesFlatUptoCard

/-- THE SECOND FORM's CARD OF 'crimplaw25.StatesStacks'. -/
def statesStacksUptoCard : Claim7 := { stood := { row := statesStacksUptoRow, standIns := [], harness := (true, "ca7ac3f785a7824564ad3e781a6372094881cd0d6c9242981a2dc11b751b4a30"), looks := false }, kinds := [], alts := [], laidByText := true, laidKinds := [.wider, .data], laidTests := true, laidLooks := .later }
def StatesStacksUptoCardSaid : Prop := Claim7.holds Tryz.pinned (.plain (OpenSpec.upto statesStacksSpec)) statesStacksUptoCard

/-- THE SECOND FORM's CARD OF 'crimplaw28.FoldsErrors'. -/
def foldsErrorsUptoCard : Claim7 := { stood := { row := foldsErrorsUptoRow, standIns := [], harness := (true, "ca7ac3f785a7824564ad3e781a6372094881cd0d6c9242981a2dc11b751b4a30"), looks := false }, kinds := [], alts := [], laidByText := true, laidKinds := [.wider, .data], laidTests := true, laidLooks := .later }
def FoldsErrorsUptoCardSaid : Prop := Claim7.holds Tryz.pinned (.plain (OpenSpec.upto foldsErrorsSpec)) foldsErrorsUptoCard

/-- THE SECOND FORM's CARD OF 'crimplaw29.TurnsCorner'. -/
def turnsCornerUptoCard : Claim7 := { stood := { row := turnsCornerUptoRow, standIns := [], harness := (true, "ca7ac3f785a7824564ad3e781a6372094881cd0d6c9242981a2dc11b751b4a30"), looks := false }, kinds := [], alts := [], laidByText := true, laidKinds := [.wider, .data], laidTests := true, laidLooks := .later }
def TurnsCornerUptoCardSaid : Prop := Claim7.holds Tryz.pinned (.plain (OpenSpec.upto turnsCornerSpec)) turnsCornerUptoCard

/-- THE SECOND FORM's CARD OF 'crimplaw29.TurnsErrors'. -/
def turnsErrorsUptoCard : Claim7 := { stood := { row := turnsErrorsUptoRow, standIns := [], harness := (true, "ca7ac3f785a7824564ad3e781a6372094881cd0d6c9242981a2dc11b751b4a30"), looks := false }, kinds := [], alts := [], laidByText := true, laidKinds := [.wider, .data], laidTests := true, laidLooks := .later }
def TurnsErrorsUptoCardSaid : Prop := Claim7.holds Tryz.pinned (.plain (OpenSpec.upto turnsErrorsSpec)) turnsErrorsUptoCard
end Rows
end Go.Proofs.YtmhhmaopnjfcgaaGreatDoor
