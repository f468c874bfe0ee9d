/-
  DERIVED. GIVEN WITH THE SEED: THE CARDS: each row of YteodgliliglipaaGreatDoorRows.lean that lists a variable, with what it lists TIED to the program's text (the seventh form; the later family's looks); each row that meets fmt, with fmt's text TOLD by the authors' own Lean function (tested against real Go, not proved from fmt's source: count such statements apart). THE CARD IS WHAT COUNTS. Prove the row's statement (the work); the ties are given (YteodgliliglipaaGreatDoorTie.lean); close each card by the builder's one call (the guide's Derived/Test/ToyasCard.lean, 'card_holds'). Laid BY PROGRAM, IN A SANDBOX (cutbox-door.mjs). By AI agents, Wed Nov 11 2026. No macro, syntax, notation, axiom, sorry.
-/
import Derived.Test.YteodgliliglipaaGreatDoorRows
import GoSem.ClaimSeven
namespace Go.Proofs.YteodgliliglipaaGreatDoor
namespace Rows

/-- THE TIED CARD OF 'crimplaw25.StatesFlat'. -/
def statesFlatCard : Claim7 := { stood := { row := statesFlatRow, standIns := [], harness := (true, "3ddab7464bf0d19f5c487daf0e0fc2863209d891ed943582d1c3e45d05ef5508"), looks := false }, kinds := [], alts := [], laidByText := true, laidKinds := [.wider, .data], laidTests := true, laidLooks := .later }
def StatesFlatCardSaid : Prop := Claim7.holds Tryz.pinned (.plain (OpenSpec.ofChange statesFlatSpec)) statesFlatCard

/-- THE TIED CARD OF 'crimplaw28.FoldsCompare'. -/
def foldsCompareCard : Claim7 := { stood := { row := foldsCompareRow, standIns := [], harness := (true, "3ddab7464bf0d19f5c487daf0e0fc2863209d891ed943582d1c3e45d05ef5508"), looks := false }, kinds := [], alts := [], laidByText := true, laidKinds := [.wider, .data], laidTests := true, laidLooks := .later }
def FoldsCompareCardSaid : Prop := Claim7.holds Tryz.pinned (.plain (OpenSpec.ofChange foldsCompareSpec)) foldsCompareCard

/-- THE TIED CARD OF 'crimplaw29.TurnsCorner'. -/
def turnsCornerCard : Claim7 := { stood := { row := turnsCornerRow, standIns := [], harness := (true, "3ddab7464bf0d19f5c487daf0e0fc2863209d891ed943582d1c3e45d05ef5508"), looks := false }, kinds := [], alts := [], laidByText := true, laidKinds := [.wider, .data], laidTests := true, laidLooks := .later }
def TurnsCornerCardSaid : Prop := Claim7.holds Tryz.pinned (.plain (OpenSpec.ofChange turnsCornerSpec)) turnsCornerCard

/-- THE TIED CARD OF 'crimplaw29.TurnsCheck'. -/
def turnsCheckCard : Claim7 := { stood := { row := turnsCheckRow, standIns := [], harness := (true, "3ddab7464bf0d19f5c487daf0e0fc2863209d891ed943582d1c3e45d05ef5508"), looks := false }, kinds := [], alts := [], laidByText := true, laidKinds := [.wider, .data], laidTests := true, laidLooks := .later }
def TurnsCheckCardSaid : Prop := Claim7.holds Tryz.pinned (.plain (OpenSpec.ofChange turnsCheckSpec)) turnsCheckCard

/-- THE TIED CARD OF 'crimplaw40.GaugesBend'. -/
def gaugesBendCard : Claim7 := { stood := { row := gaugesBendRow, standIns := [], harness := (true, "3ddab7464bf0d19f5c487daf0e0fc2863209d891ed943582d1c3e45d05ef5508"), looks := false }, kinds := [], alts := [], laidByText := true, laidKinds := [.wider, .data], laidTests := true, laidLooks := .later }
def GaugesBendCardSaid : Prop := Claim7.holds Tryz.pinned (.plain (OpenSpec.ofChange gaugesBendSpec)) gaugesBendCard

/-- THE TIED CARD OF 'crimplaw40.GaugesCreep'. -/
def gaugesCreepCard : Claim7 := { stood := { row := gaugesCreepRow, standIns := [], harness := (true, "3ddab7464bf0d19f5c487daf0e0fc2863209d891ed943582d1c3e45d05ef5508"), looks := false }, kinds := [], alts := [], laidByText := true, laidKinds := [.wider, .data], laidTests := true, laidLooks := .later }
def GaugesCreepCardSaid : Prop := Claim7.holds Tryz.pinned (.plain (OpenSpec.ofChange gaugesCreepSpec)) gaugesCreepCard

/-- THE TIED CARD OF 'crimplaw40.GaugesNested'. -/
def gaugesNestedCard : Claim7 := { stood := { row := gaugesNestedRow, standIns := [], harness := (true, "3ddab7464bf0d19f5c487daf0e0fc2863209d891ed943582d1c3e45d05ef5508"), looks := false }, kinds := [], alts := [], laidByText := true, laidKinds := [.wider, .data], laidTests := true, laidLooks := .later }
def GaugesNestedCardSaid : Prop := Claim7.holds Tryz.pinned (.plain (OpenSpec.ofChange gaugesNestedSpec)) gaugesNestedCard

/-- THE SECOND FORM's CARD OF 'crimplaw25.StatesFlat'. -/
def statesFlatUptoCard : Claim7 := { stood := { row := statesFlatUptoRow, standIns := [], harness := (true, "3ddab7464bf0d19f5c487daf0e0fc2863209d891ed943582d1c3e45d05ef5508"), looks := false }, kinds := [], alts := [], laidByText := true, laidKinds := [.wider, .data], laidTests := true, laidLooks := .later }
def StatesFlatUptoCardSaid : Prop := Claim7.holds Tryz.pinned (.plain (OpenSpec.upto statesFlatSpec)) statesFlatUptoCard

/-- THE SECOND FORM's CARD OF 'crimplaw28.FoldsCompare'. -/
def foldsCompareUptoCard : Claim7 := { stood := { row := foldsCompareUptoRow, standIns := [], harness := (true, "3ddab7464bf0d19f5c487daf0e0fc2863209d891ed943582d1c3e45d05ef5508"), looks := false }, kinds := [], alts := [], laidByText := true, laidKinds := [.wider, .data], laidTests := true, laidLooks := .later }
def FoldsCompareUptoCardSaid : Prop := Claim7.holds Tryz.pinned (.plain (OpenSpec.upto foldsCompareSpec)) foldsCompareUptoCard

/-- THE SECOND FORM's CARD OF 'crimplaw29.TurnsCorner'. -/
def turnsCornerUptoCard : Claim7 := { stood := { row := turnsCornerUptoRow, standIns := [], harness := (true, "3ddab7464bf0d19f5c487daf0e0fc2863209d891ed943582d1c3e45d05ef5508"), looks := false }, kinds := [], alts := [], laidByText := true, laidKinds := [.wider, .data], laidTests := true, laidLooks := .later }
def TurnsCornerUptoCardSaid : Prop := Claim7.holds Tryz.pinned (.plain (OpenSpec.upto turnsCornerSpec)) turnsCornerUptoCard

/-- THE SECOND FORM's CARD OF 'crimplaw29.TurnsCheck'. -/
def turnsCheckUptoCard : Claim7 := { stood := { row := turnsCheckUptoRow, standIns := [], harness := (true, "3ddab7464bf0d19f5c487daf0e0fc2863209d891ed943582d1c3e45d05ef5508"), looks := false }, kinds := [], alts := [], laidByText := true, laidKinds := [.wider, .data], laidTests := true, laidLooks := .later }
def TurnsCheckUptoCardSaid : Prop := Claim7.holds Tryz.pinned (.plain (OpenSpec.upto turnsCheckSpec)) turnsCheckUptoCard

/-- THE SECOND FORM's CARD OF 'crimplaw40.GaugesBend'. -/
def gaugesBendUptoCard : Claim7 := { stood := { row := gaugesBendUptoRow, standIns := [], harness := (true, "3ddab7464bf0d19f5c487daf0e0fc2863209d891ed943582d1c3e45d05ef5508"), looks := false }, kinds := [], alts := [], laidByText := true, laidKinds := [.wider, .data], laidTests := true, laidLooks := .later }
def GaugesBendUptoCardSaid : Prop := Claim7.holds Tryz.pinned (.plain (OpenSpec.upto gaugesBendSpec)) gaugesBendUptoCard

/-- THE SECOND FORM's CARD OF 'crimplaw40.GaugesCreep'. -/
def gaugesCreepUptoCard : Claim7 := { stood := { row := gaugesCreepUptoRow, standIns := [], harness := (true, "3ddab7464bf0d19f5c487daf0e0fc2863209d891ed943582d1c3e45d05ef5508"), looks := false }, kinds := [], alts := [], laidByText := true, laidKinds := [.wider, .data], laidTests := true, laidLooks := .later }
def GaugesCreepUptoCardSaid : Prop := Claim7.holds Tryz.pinned (.plain (OpenSpec.upto gaugesCreepSpec)) gaugesCreepUptoCard

/-- THE SECOND FORM's CARD OF 'crimplaw40.GaugesNested'. -/
def gaugesNestedUptoCard : Claim7 := { stood := { row := gaugesNestedUptoRow, standIns := [], harness := (true, "3ddab7464bf0d19f5c487daf0e0fc2863209d891ed943582d1c3e45d05ef5508"), looks := false }, kinds := [], alts := [], laidByText := true, laidKinds := [.wider, .data], laidTests := true, laidLooks := .later }
def GaugesNestedUptoCardSaid : Prop := Claim7.holds Tryz.pinned (.plain (OpenSpec.upto gaugesNestedSpec)) gaugesNestedUptoCard
end Rows
end Go.Proofs.YteodgliliglipaaGreatDoor
