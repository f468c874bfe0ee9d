/-
  DERIVED. GIVEN WITH THE SEED: THE CARDS: each row of YtdblhepcmjecgaaGreatDoorRows.lean that lists a variable, with what it lists TIED to the program's text (the seventh form; the later family's looks); each row that meets fmt, with fmt's text TOLD by the authors' own Lean function (tested against real Go, not proved from fmt's source: count such statements apart). THE CARD IS WHAT COUNTS. Prove the row's statement (the work); the ties are given (YtdblhepcmjecgaaGreatDoorTie.lean); close each card by the builder's one call (the guide's Derived/Test/ToyasCard.lean, 'card_holds'). Laid BY PROGRAM, IN A SANDBOX (cutbox-door.mjs). By AI agents, Wed Nov 11 2026. No macro, syntax, notation, axiom, sorry.
-/
import Derived.Test.YtdblhepcmjecgaaGreatDoorRows
import GoSem.ClaimSeven
namespace Go.Proofs.YtdblhepcmjecgaaGreatDoor
namespace Rows

/-- THE TIED CARD OF 'crimplaw25.StatesFlat'. -/
def statesFlatCard : Claim7 := { stood := { row := statesFlatRow, standIns := [], harness := (true, "bce68e6f183309089c708e8cd6f9ec610d76739a333d352ddc2de5cdb88d159b"), looks := false }, kinds := [], alts := [], laidByText := true, laidKinds := [.wider, .data], laidTests := true, laidLooks := .later }
def StatesFlatCardSaid : Prop := Claim7.holds Tryz.pinned (.plain (OpenSpec.ofChange statesFlatSpec)) statesFlatCard

/-- THE TIED CARD OF 'crimplaw40.GaugesCreases'. -/
def gaugesCreasesCard : Claim7 := { stood := { row := gaugesCreasesRow, standIns := [], harness := (true, "bce68e6f183309089c708e8cd6f9ec610d76739a333d352ddc2de5cdb88d159b"), looks := false }, kinds := [], alts := [], laidByText := true, laidKinds := [.wider, .data], laidTests := true, laidLooks := .later }
def GaugesCreasesCardSaid : Prop := Claim7.holds Tryz.pinned (.plain (OpenSpec.ofChange gaugesCreasesSpec)) gaugesCreasesCard

/-- THE TIED CARD OF 'crimplaw40.GaugesNeeds'. -/
def gaugesNeedsCard : Claim7 := { stood := { row := gaugesNeedsRow, standIns := [], harness := (true, "bce68e6f183309089c708e8cd6f9ec610d76739a333d352ddc2de5cdb88d159b"), looks := false }, kinds := [], alts := [], laidByText := true, laidKinds := [.wider, .data], laidTests := true, laidLooks := .later }
def GaugesNeedsCardSaid : Prop := Claim7.holds Tryz.pinned (.plain (OpenSpec.ofChange gaugesNeedsSpec)) gaugesNeedsCard

/-- THE TIED CARD OF 'crimplaw40.GaugesErrors'. -/
def gaugesErrorsCard : Claim7 := { stood := { row := gaugesErrorsRow, standIns := [], harness := (true, "bce68e6f183309089c708e8cd6f9ec610d76739a333d352ddc2de5cdb88d159b"), looks := false }, kinds := [], alts := [], laidByText := true, laidKinds := [.wider, .data], laidTests := true, laidLooks := .later }
def GaugesErrorsCardSaid : Prop := Claim7.holds Tryz.pinned (.plain (OpenSpec.ofChange gaugesErrorsSpec)) gaugesErrorsCard

/-- THE SECOND FORM's CARD OF 'crimplaw25.StatesFlat'. -/
def statesFlatUptoCard : Claim7 := { stood := { row := statesFlatUptoRow, standIns := [], harness := (true, "bce68e6f183309089c708e8cd6f9ec610d76739a333d352ddc2de5cdb88d159b"), looks := false }, kinds := [], alts := [], laidByText := true, laidKinds := [.wider, .data], laidTests := true, laidLooks := .later }
def StatesFlatUptoCardSaid : Prop := Claim7.holds Tryz.pinned (.plain (OpenSpec.upto statesFlatSpec)) statesFlatUptoCard

/-- THE SECOND FORM's CARD OF 'crimplaw40.GaugesCreases'. -/
def gaugesCreasesUptoCard : Claim7 := { stood := { row := gaugesCreasesUptoRow, standIns := [], harness := (true, "bce68e6f183309089c708e8cd6f9ec610d76739a333d352ddc2de5cdb88d159b"), looks := false }, kinds := [], alts := [], laidByText := true, laidKinds := [.wider, .data], laidTests := true, laidLooks := .later }
def GaugesCreasesUptoCardSaid : Prop := Claim7.holds Tryz.pinned (.plain (OpenSpec.upto gaugesCreasesSpec)) gaugesCreasesUptoCard

/-- THE SECOND FORM's CARD OF 'crimplaw40.GaugesNeeds'. -/
def gaugesNeedsUptoCard : Claim7 := { stood := { row := gaugesNeedsUptoRow, standIns := [], harness := (true, "bce68e6f183309089c708e8cd6f9ec610d76739a333d352ddc2de5cdb88d159b"), looks := false }, kinds := [], alts := [], laidByText := true, laidKinds := [.wider, .data], laidTests := true, laidLooks := .later }
def GaugesNeedsUptoCardSaid : Prop := Claim7.holds Tryz.pinned (.plain (OpenSpec.upto gaugesNeedsSpec)) gaugesNeedsUptoCard

/-- THE SECOND FORM's CARD OF 'crimplaw40.GaugesErrors'. -/
def gaugesErrorsUptoCard : Claim7 := { stood := { row := gaugesErrorsUptoRow, standIns := [], harness := (true, "bce68e6f183309089c708e8cd6f9ec610d76739a333d352ddc2de5cdb88d159b"), looks := false }, kinds := [], alts := [], laidByText := true, laidKinds := [.wider, .data], laidTests := true, laidLooks := .later }
def GaugesErrorsUptoCardSaid : Prop := Claim7.holds Tryz.pinned (.plain (OpenSpec.upto gaugesErrorsSpec)) gaugesErrorsUptoCard
end Rows
end Go.Proofs.YtdblhepcmjecgaaGreatDoor
