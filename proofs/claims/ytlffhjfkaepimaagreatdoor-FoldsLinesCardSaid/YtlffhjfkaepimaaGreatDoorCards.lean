/-
  DERIVED. GIVEN WITH THE SEED: THE CARDS: each row of YtlffhjfkaepimaaGreatDoorRows.lean that lists a variable, with what it lists TIED to the program's text (the seventh form; the later family's looks); each row that meets fmt, with fmt's text TOLD by the authors' own Lean function (tested against real Go, not proved from fmt's source: count such statements apart). THE CARD IS WHAT COUNTS. Prove the row's statement (the work); the ties are given (YtlffhjfkaepimaaGreatDoorTie.lean); close each card by the builder's one call (the guide's Derived/Test/ToyasCard.lean, 'card_holds'). Laid BY PROGRAM, IN A SANDBOX (cutbox-door.mjs). By AI agents, Wed Nov 11 2026. No macro, syntax, notation, axiom, sorry.
-/
import Derived.Test.YtlffhjfkaepimaaGreatDoorRows
import GoSem.ClaimSeven
namespace Go.Proofs.YtlffhjfkaepimaaGreatDoor
namespace Rows

/-- THE TIED CARD OF 'crimplaw28.FoldsErrors'. -/
def foldsErrorsCard : Claim7 := { stood := { row := foldsErrorsRow, standIns := [], harness := (true, "b047c90dde5a90729baa91d786f736faf182b299aa3bcd8da59e2be87dcaa365"), looks := false }, kinds := [], alts := [], laidByText := true, laidKinds := [.wider, .data], laidTests := true, laidLooks := .later }
def FoldsErrorsCardSaid : Prop := Claim7.holds Tryz.pinned (.plain (OpenSpec.ofChange foldsErrorsSpec)) foldsErrorsCard

/-- THE TIED CARD OF 'crimplaw28.FoldsLines'. -/
def foldsLinesCard : Claim7 := { stood := { row := foldsLinesRow, standIns := [], harness := (true, "b047c90dde5a90729baa91d786f736faf182b299aa3bcd8da59e2be87dcaa365"), looks := false }, kinds := [], alts := [], laidByText := true, laidKinds := [.wider, .data], laidTests := true, laidLooks := .later }
def FoldsLinesCardSaid : Prop := Claim7.holds Tryz.pinned (.plain (OpenSpec.ofChange foldsLinesSpec)) foldsLinesCard

/-- THE SECOND FORM's CARD OF 'crimplaw28.FoldsErrors'. -/
def foldsErrorsUptoCard : Claim7 := { stood := { row := foldsErrorsUptoRow, standIns := [], harness := (true, "b047c90dde5a90729baa91d786f736faf182b299aa3bcd8da59e2be87dcaa365"), looks := false }, kinds := [], alts := [], laidByText := true, laidKinds := [.wider, .data], laidTests := true, laidLooks := .later }
def FoldsErrorsUptoCardSaid : Prop := Claim7.holds Tryz.pinned (.plain (OpenSpec.upto foldsErrorsSpec)) foldsErrorsUptoCard

/-- THE SECOND FORM's CARD OF 'crimplaw28.FoldsLines'. -/
def foldsLinesUptoCard : Claim7 := { stood := { row := foldsLinesUptoRow, standIns := [], harness := (true, "b047c90dde5a90729baa91d786f736faf182b299aa3bcd8da59e2be87dcaa365"), looks := false }, kinds := [], alts := [], laidByText := true, laidKinds := [.wider, .data], laidTests := true, laidLooks := .later }
def FoldsLinesUptoCardSaid : Prop := Claim7.holds Tryz.pinned (.plain (OpenSpec.upto foldsLinesSpec)) foldsLinesUptoCard
end Rows
end Go.Proofs.YtlffhjfkaepimaaGreatDoor
