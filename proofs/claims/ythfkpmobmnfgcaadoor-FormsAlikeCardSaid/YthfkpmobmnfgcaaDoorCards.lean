/-
  DERIVED. GIVEN WITH THE SEED: THE CARDS: each row of YthfkpmobmnfgcaaDoorRows.lean that lists a variable, with what it lists TIED to the program's text (the seventh form; the later family's looks); each row that meets fmt, with fmt's text TOLD by the authors' own Lean function (tested against real Go, not proved from fmt's source: count such statements apart). THE CARD IS WHAT COUNTS. Prove the row's statement (the work); the ties are given (YthfkpmobmnfgcaaDoorTie.lean); close each card by the builder's one call (the guide's Derived/Test/ToyasCard.lean, 'card_holds'). Laid BY PROGRAM, IN A SANDBOX (cutbox-door.mjs). By AI agents, Wed Nov 11 2026. No macro, syntax, notation, axiom, sorry.
-/
import Derived.Test.YthfkpmobmnfgcaaDoorRows
import GoSem.ClaimSeven
namespace Go.Proofs.YthfkpmobmnfgcaaDoor
namespace Rows

/-- THE TIED CARD OF 'crimplaw33.FormsImages'. -/
def formsImagesCard : Claim7 := { stood := { row := formsImagesRow, standIns := [], harness := (true, "48f99fe3f651a3350f0ad6b37571352a437f0c2880d9093ebd53acef530fbfca"), looks := false }, kinds := [], alts := [], laidByText := true, laidKinds := [.data, .funcs, .widerDeep], laidTests := true, laidLooks := .later }
def FormsImagesCardSaid : Prop := Claim7.holds Tryd.pinned (.plain (OpenSpec.ofChange formsImagesSpec)) formsImagesCard

/-- THE TIED CARD OF 'crimplaw33.FormsLeast'. -/
def formsLeastCard : Claim7 := { stood := { row := formsLeastRow, standIns := [], harness := (true, "48f99fe3f651a3350f0ad6b37571352a437f0c2880d9093ebd53acef530fbfca"), looks := false }, kinds := [], alts := [], laidByText := true, laidKinds := [.data, .funcs, .widerDeep], laidTests := true, laidLooks := .later }
def FormsLeastCardSaid : Prop := Claim7.holds Tryd.pinned (.plain (OpenSpec.ofChange formsLeastSpec)) formsLeastCard

/-- THE TIED CARD OF 'crimplaw33.FormsCompare'. -/
def formsCompareCard : Claim7 := { stood := { row := formsCompareRow, standIns := [], harness := (true, "48f99fe3f651a3350f0ad6b37571352a437f0c2880d9093ebd53acef530fbfca"), looks := false }, kinds := [], alts := [], laidByText := true, laidKinds := [.data, .funcs, .widerDeep], laidTests := true, laidLooks := .later }
def FormsCompareCardSaid : Prop := Claim7.holds Tryd.pinned (.plain (OpenSpec.ofChange formsCompareSpec)) formsCompareCard

/-- THE TIED CARD OF 'crimplaw33.FormsAlike'. -/
def formsAlikeCard : Claim7 := { stood := { row := formsAlikeRow, standIns := [], harness := (true, "48f99fe3f651a3350f0ad6b37571352a437f0c2880d9093ebd53acef530fbfca"), looks := false }, kinds := [], alts := [], laidByText := true, laidKinds := [.data, .funcs, .widerDeep], laidTests := true, laidLooks := .later }
def FormsAlikeCardSaid : Prop := Claim7.holds Tryd.pinned (.plain (OpenSpec.ofChange formsAlikeSpec)) formsAlikeCard

/-- THE TIED CARD OF 'crimplaw33.FormsErrors'. -/
def formsErrorsCard : Claim7 := { stood := { row := formsErrorsRow, standIns := [], harness := (true, "48f99fe3f651a3350f0ad6b37571352a437f0c2880d9093ebd53acef530fbfca"), looks := false }, kinds := [], alts := [], laidByText := true, laidKinds := [.data, .funcs, .widerDeep], laidTests := true, laidLooks := .later }
def FormsErrorsCardSaid : Prop := Claim7.holds Tryd.pinned (.plain (OpenSpec.ofChange formsErrorsSpec)) formsErrorsCard

/-- THE SECOND FORM's CARD OF 'crimplaw33.FormsImages'. -/
def formsImagesUptoCard : Claim7 := { stood := { row := formsImagesUptoRow, standIns := [], harness := (true, "48f99fe3f651a3350f0ad6b37571352a437f0c2880d9093ebd53acef530fbfca"), looks := false }, kinds := [], alts := [], laidByText := true, laidKinds := [.data, .funcs, .widerDeep], laidTests := true, laidLooks := .later }
def FormsImagesUptoCardSaid : Prop := Claim7.holds Tryd.pinned (.plain (OpenSpec.upto formsImagesSpec)) formsImagesUptoCard

/-- THE SECOND FORM's CARD OF 'crimplaw33.FormsLeast'. -/
def formsLeastUptoCard : Claim7 := { stood := { row := formsLeastUptoRow, standIns := [], harness := (true, "48f99fe3f651a3350f0ad6b37571352a437f0c2880d9093ebd53acef530fbfca"), looks := false }, kinds := [], alts := [], laidByText := true, laidKinds := [.data, .funcs, .widerDeep], laidTests := true, laidLooks := .later }
def FormsLeastUptoCardSaid : Prop := Claim7.holds Tryd.pinned (.plain (OpenSpec.upto formsLeastSpec)) formsLeastUptoCard

/-- THE SECOND FORM's CARD OF 'crimplaw33.FormsCompare'. -/
def formsCompareUptoCard : Claim7 := { stood := { row := formsCompareUptoRow, standIns := [], harness := (true, "48f99fe3f651a3350f0ad6b37571352a437f0c2880d9093ebd53acef530fbfca"), looks := false }, kinds := [], alts := [], laidByText := true, laidKinds := [.data, .funcs, .widerDeep], laidTests := true, laidLooks := .later }
def FormsCompareUptoCardSaid : Prop := Claim7.holds Tryd.pinned (.plain (OpenSpec.upto formsCompareSpec)) formsCompareUptoCard

/-- THE SECOND FORM's CARD OF 'crimplaw33.FormsAlike'. -/
def formsAlikeUptoCard : Claim7 := { stood := { row := formsAlikeUptoRow, standIns := [], harness := (true, "48f99fe3f651a3350f0ad6b37571352a437f0c2880d9093ebd53acef530fbfca"), looks := false }, kinds := [], alts := [], laidByText := true, laidKinds := [.data, .funcs, .widerDeep], laidTests := true, laidLooks := .later }
def FormsAlikeUptoCardSaid : Prop := Claim7.holds Tryd.pinned (.plain (OpenSpec.upto formsAlikeSpec)) formsAlikeUptoCard

/-- THE SECOND FORM's CARD OF 'crimplaw33.FormsErrors'. -/
def formsErrorsUptoCard : Claim7 := { stood := { row := formsErrorsUptoRow, standIns := [], harness := (true, "48f99fe3f651a3350f0ad6b37571352a437f0c2880d9093ebd53acef530fbfca"), looks := false }, kinds := [], alts := [], laidByText := true, laidKinds := [.data, .funcs, .widerDeep], laidTests := true, laidLooks := .later }
def FormsErrorsUptoCardSaid : Prop := Claim7.holds Tryd.pinned (.plain (OpenSpec.upto formsErrorsSpec)) formsErrorsUptoCard
end Rows
end Go.Proofs.YthfkpmobmnfgcaaDoor
