/-
  DERIVED. GIVEN WITH THE SEED: THE CARDS: each row of YtaihldljnlgnoaaGreatDoorRows.lean that lists a variable, with what it lists TIED to the program's text (the seventh form; the later family's looks); each row that meets fmt, with fmt's text TOLD by the authors' own Lean function (tested against real Go, not proved from fmt's source: count such statements apart). THE CARD IS WHAT COUNTS. Prove the row's statement (the work); the ties are given (YtaihldljnlgnoaaGreatDoorTie.lean); close each card by the builder's one call (the guide's Derived/Test/ToyasCard.lean, 'card_holds'). Laid BY PROGRAM, IN A SANDBOX (cutbox-door.mjs). By AI agents, Wed Nov 11 2026. No macro, syntax, notation, axiom, sorry.
-/
import Derived.Test.YtaihldljnlgnoaaGreatDoorRows
import GoSem.ClaimSeven
namespace Go.Proofs.YtaihldljnlgnoaaGreatDoor
namespace Rows

/-- THE TIED CARD OF 'crimplaw25.StatesStacks'. -/
def statesStacksCard : Claim7 := { stood := { row := statesStacksRow, standIns := [], harness := (true, "a62fc7c0405afd1ecf185012c108b7216cb6ca2bc75f2f634257523a323add10"), looks := false }, kinds := [], alts := [], laidByText := true, laidKinds := [.wider, .data], laidTests := true, laidLooks := .later }
def StatesStacksCardSaid : Prop := Claim7.holds Tryz.pinned (.plain (OpenSpec.ofChange statesStacksSpec)) statesStacksCard

/-- THE TIED CARD OF 'crimplaw25.StatesKinds'. -/
def statesKindsCard : Claim7 := { stood := { row := statesKindsRow, standIns := [], harness := (true, "a62fc7c0405afd1ecf185012c108b7216cb6ca2bc75f2f634257523a323add10"), looks := false }, kinds := [], alts := [], laidByText := true, laidKinds := [.wider, .data], laidTests := true, laidLooks := .later }
def StatesKindsCardSaid : Prop := Claim7.holds Tryz.pinned (.plain (OpenSpec.ofChange statesKindsSpec)) statesKindsCard

/-- THE TIED CARD OF 'crimplaw25.StatesMove'. -/
def statesMoveCard : Claim7 := { stood := { row := statesMoveRow, standIns := [], harness := (true, "a62fc7c0405afd1ecf185012c108b7216cb6ca2bc75f2f634257523a323add10"), looks := false }, kinds := [], alts := [], laidByText := true, laidKinds := [.wider, .data], laidTests := true, laidLooks := .later }
def StatesMoveCardSaid : Prop := Claim7.holds Tryz.pinned (.plain (OpenSpec.ofChange statesMoveSpec)) statesMoveCard

/-- THE TIED CARD OF 'crimplaw25.StatesFlip'. -/
def statesFlipCard : Claim7 := { stood := { row := statesFlipRow, standIns := [], harness := (true, "a62fc7c0405afd1ecf185012c108b7216cb6ca2bc75f2f634257523a323add10"), looks := false }, kinds := [], alts := [], laidByText := true, laidKinds := [.wider, .data], laidTests := true, laidLooks := .later }
def StatesFlipCardSaid : Prop := Claim7.holds Tryz.pinned (.plain (OpenSpec.ofChange statesFlipSpec)) statesFlipCard

/-- THE TIED CARD OF 'crimplaw25.StatesCheck'. -/
def statesCheckCard : Claim7 := { stood := { row := statesCheckRow, standIns := [], harness := (true, "a62fc7c0405afd1ecf185012c108b7216cb6ca2bc75f2f634257523a323add10"), looks := false }, kinds := [], alts := [], laidByText := true, laidKinds := [.wider, .data], laidTests := true, laidLooks := .later }
def StatesCheckCardSaid : Prop := Claim7.holds Tryz.pinned (.plain (OpenSpec.ofChange statesCheckSpec)) statesCheckCard

/-- THE TIED CARD OF 'crimplaw25.StatesMaekawa'. -/
def statesMaekawaCard : Claim7 := { stood := { row := statesMaekawaRow, standIns := [], harness := (true, "a62fc7c0405afd1ecf185012c108b7216cb6ca2bc75f2f634257523a323add10"), looks := false }, kinds := [], alts := [], laidByText := true, laidKinds := [.wider, .data], laidTests := true, laidLooks := .later }
def StatesMaekawaCardSaid : Prop := Claim7.holds Tryz.pinned (.plain (OpenSpec.ofChange statesMaekawaSpec)) statesMaekawaCard

/-- THE SECOND FORM's CARD OF 'crimplaw25.StatesStacks'. -/
def statesStacksUptoCard : Claim7 := { stood := { row := statesStacksUptoRow, standIns := [], harness := (true, "a62fc7c0405afd1ecf185012c108b7216cb6ca2bc75f2f634257523a323add10"), looks := false }, kinds := [], alts := [], laidByText := true, laidKinds := [.wider, .data], laidTests := true, laidLooks := .later }
def StatesStacksUptoCardSaid : Prop := Claim7.holds Tryz.pinned (.plain (OpenSpec.upto statesStacksSpec)) statesStacksUptoCard

/-- THE SECOND FORM's CARD OF 'crimplaw25.StatesKinds'. -/
def statesKindsUptoCard : Claim7 := { stood := { row := statesKindsUptoRow, standIns := [], harness := (true, "a62fc7c0405afd1ecf185012c108b7216cb6ca2bc75f2f634257523a323add10"), looks := false }, kinds := [], alts := [], laidByText := true, laidKinds := [.wider, .data], laidTests := true, laidLooks := .later }
def StatesKindsUptoCardSaid : Prop := Claim7.holds Tryz.pinned (.plain (OpenSpec.upto statesKindsSpec)) statesKindsUptoCard

/-- THE SECOND FORM's CARD OF 'crimplaw25.StatesMove'. -/
def statesMoveUptoCard : Claim7 := { stood := { row := statesMoveUptoRow, standIns := [], harness := (true, "a62fc7c0405afd1ecf185012c108b7216cb6ca2bc75f2f634257523a323add10"), looks := false }, kinds := [], alts := [], laidByText := true, laidKinds := [.wider, .data], laidTests := true, laidLooks := .later }
def StatesMoveUptoCardSaid : Prop := Claim7.holds Tryz.pinned (.plain (OpenSpec.upto statesMoveSpec)) statesMoveUptoCard

/-- THE SECOND FORM's CARD OF 'crimplaw25.StatesFlip'. -/
def statesFlipUptoCard : Claim7 := { stood := { row := statesFlipUptoRow, standIns := [], harness := (true, "a62fc7c0405afd1ecf185012c108b7216cb6ca2bc75f2f634257523a323add10"), looks := false }, kinds := [], alts := [], laidByText := true, laidKinds := [.wider, .data], laidTests := true, laidLooks := .later }
def StatesFlipUptoCardSaid : Prop := Claim7.holds Tryz.pinned (.plain (OpenSpec.upto statesFlipSpec)) statesFlipUptoCard

/-- THE SECOND FORM's CARD OF 'crimplaw25.StatesCheck'. -/
def statesCheckUptoCard : Claim7 := { stood := { row := statesCheckUptoRow, standIns := [], harness := (true, "a62fc7c0405afd1ecf185012c108b7216cb6ca2bc75f2f634257523a323add10"), looks := false }, kinds := [], alts := [], laidByText := true, laidKinds := [.wider, .data], laidTests := true, laidLooks := .later }
def StatesCheckUptoCardSaid : Prop := Claim7.holds Tryz.pinned (.plain (OpenSpec.upto statesCheckSpec)) statesCheckUptoCard

/-- THE SECOND FORM's CARD OF 'crimplaw25.StatesMaekawa'. -/
def statesMaekawaUptoCard : Claim7 := { stood := { row := statesMaekawaUptoRow, standIns := [], harness := (true, "a62fc7c0405afd1ecf185012c108b7216cb6ca2bc75f2f634257523a323add10"), looks := false }, kinds := [], alts := [], laidByText := true, laidKinds := [.wider, .data], laidTests := true, laidLooks := .later }
def StatesMaekawaUptoCardSaid : Prop := Claim7.holds Tryz.pinned (.plain (OpenSpec.upto statesMaekawaSpec)) statesMaekawaUptoCard
end Rows
end Go.Proofs.YtaihldljnlgnoaaGreatDoor
