/-
  NARROWER THAN 'FOR EVERY INPUT', by the rows' own cells (each row's printed sentence says how): FormsImages: laid · FormsLeast: laid · FormsCompare: laid · FormsAlike: laid · FormsErrors: laid.
  DERIVED. THE GIVEN ROWS OF THIS SEAT. 5 by the template 'for every input the law returns true; each argument reads behind the call as it read before'; 0 by the template 'total and deterministic' (their statements: YthfkpmobmnfgcaaDoorTotals.lean).
  GIVEN WITH THE SEED: the statements are not yours to turn. If you find one false, say at which input.
  Laid BY PROGRAM, IN A SANDBOX (cutbox-rows.mjs): the forced cells as the released guide's own fill.sh prints them over the translation 6d94819d4bf7ee41… (all of the seat's roots in one cut). By AI agents, Wed Nov 11 2026. No macro, syntax, notation, axiom, sorry.
-/
import Derived.Test.YthfkpmobmnfgcaaDoorChecked
import GoSem.Claim
import GoSem.ClaimJoined
import GoSem.ClaimMapViews
import Derived.JoinedTies
import Derived.KernelRfl
namespace Go.Proofs.YthfkpmobmnfgcaaDoor
/- THE CELL 'sum', in the pinned program and in every row, IS THE sha256 OF THE DUMP (.gsa) THAT YthfkpmobmnfgcaaDoorProg.lean LOADS. Nothing in Lean hashes anything: it is a label: what it is worth is what the hold of that sum in a sandbox is worth. -/
noncomputable def Tryd.pinned : Pinned := { name := "ythfkpmobmnfgcaadoor", sum := "6d94819d4bf7ee41eb6de90326e256aebe6bf0d03eac4818bad9cb9e3dfe4c3d", checked := Tryd.checked }
namespace Rows
def none {H : Type} : Left H := { results := [], args := [] }

/- WHAT THE LISTED PACKAGE-LEVEL VARIABLES READ AS WHEN THE CALL BEGINS. Each datum BY PROGRAM (the guide's laid-datum.mjs) off the statement by which the dump's own 'gosem.cut.vars' lays the variable. In a bare row this is a premise. The card (YthfkpmobmnfgcaaDoorCards.lean) ties it to the program's text. -/
def laid_crimp_cells_quarters {H : Type} : DataW H := .agg [.agg [.agg [.lit (.int .i64 0), .lit (.int .i64 (-1))], .lit (.int .u8 2), .lit (.int .i64 0), .agg [.agg [.lit (.int .i64 0), .lit (.int .i64 (-1)), .lit (.int .u8 2)], .agg [.lit (.int .i64 0), .lit (.int .i64 0), .lit (.int .u8 1)], .agg [.lit (.int .i64 0), .lit (.int .i64 0), .lit (.int .u8 3)]], .agg [.lit (.int .i64 0), .lit (.int .i64 0)], .agg [.lit (.int .i64 2), .lit (.int .i64 0)]], .agg [.agg [.lit (.int .i64 1), .lit (.int .i64 0)], .lit (.int .u8 1), .lit (.int .i64 1), .agg [.agg [.lit (.int .i64 1), .lit (.int .i64 0), .lit (.int .u8 3)], .agg [.lit (.int .i64 0), .lit (.int .i64 0), .lit (.int .u8 0)], .agg [.lit (.int .i64 0), .lit (.int .i64 0), .lit (.int .u8 2)]], .agg [.lit (.int .i64 2), .lit (.int .i64 2)], .agg [.lit (.int .i64 2), .lit (.int .i64 0)]], .agg [.agg [.lit (.int .i64 0), .lit (.int .i64 1)], .lit (.int .u8 2), .lit (.int .i64 1), .agg [.agg [.lit (.int .i64 0), .lit (.int .i64 1), .lit (.int .u8 0)], .agg [.lit (.int .i64 0), .lit (.int .i64 0), .lit (.int .u8 3)], .agg [.lit (.int .i64 0), .lit (.int .i64 0), .lit (.int .u8 1)]], .agg [.lit (.int .i64 2), .lit (.int .i64 2)], .agg [.lit (.int .i64 0), .lit (.int .i64 2)]], .agg [.agg [.lit (.int .i64 (-1)), .lit (.int .i64 0)], .lit (.int .u8 1), .lit (.int .i64 0), .agg [.agg [.lit (.int .i64 (-1)), .lit (.int .i64 0), .lit (.int .u8 1)], .agg [.lit (.int .i64 0), .lit (.int .i64 0), .lit (.int .u8 2)], .agg [.lit (.int .i64 0), .lit (.int .i64 0), .lit (.int .u8 0)]], .agg [.lit (.int .i64 0), .lit (.int .i64 0)], .agg [.lit (.int .i64 0), .lit (.int .i64 2)]]]
def laid_crimp_forms_turned {H : Type} : DataW H := .iface "func table" (.agg [.iface "func" (.lit (.string [99, 114, 105, 109, 112, 47, 102, 111, 114, 109, 115, 46, 116, 117, 114, 110, 101, 100, 36, 49])), .iface "func" (.lit (.string [99, 114, 105, 109, 112, 47, 102, 111, 114, 109, 115, 46, 116, 117, 114, 110, 101, 100, 36, 50])), .iface "func" (.lit (.string [99, 114, 105, 109, 112, 47, 102, 111, 114, 109, 115, 46, 116, 117, 114, 110, 101, 100, 36, 51])), .iface "func" (.lit (.string [99, 114, 105, 109, 112, 47, 102, 111, 114, 109, 115, 46, 116, 117, 114, 110, 101, 100, 36, 52])), .iface "func" (.lit (.string [99, 114, 105, 109, 112, 47, 102, 111, 114, 109, 115, 46, 116, 117, 114, 110, 101, 100, 36, 53])), .iface "func" (.lit (.string [99, 114, 105, 109, 112, 47, 102, 111, 114, 109, 115, 46, 116, 117, 114, 110, 101, 100, 36, 54])), .iface "func" (.lit (.string [99, 114, 105, 109, 112, 47, 102, 111, 114, 109, 115, 46, 116, 117, 114, 110, 101, 100, 36, 55])), .iface "func" (.lit (.string [99, 114, 105, 109, 112, 47, 102, 111, 114, 109, 115, 46, 116, 117, 114, 110, 101, 100, 36, 56]))])
def laid_crimp_forms_inner {H : Type} : DataW H := .agg [.agg [.lit (.int .i64 0), .lit (.int .i64 (-1))], .agg [.lit (.int .i64 1), .lit (.int .i64 0)], .agg [.lit (.int .i64 0), .lit (.int .i64 1)], .agg [.lit (.int .i64 (-1)), .lit (.int .i64 0)]]

/-- 'crimplaw33.FormsImages': WHATEVER THE INPUT: true; the input reads as it did. -/
def formsImagesSpec : ChangeSpec := { name := "formsImages", fn := fun _ => fun
  | [d] => { results := [.lit (.bool true)], args := [d] }
  | _ => none }
def formsImagesRow : OpenClaim := { program := "ythfkpmobmnfgcaadoor", sum := "6d94819d4bf7ee41eb6de90326e256aebe6bf0d03eac4818bad9cb9e3dfe4c3d", func := "crimp/crimplaw33.FormsImages", spec := "formsImages", unfollowed := true, recurses := true, named := ["crimp/cells.quarters", "crimp/forms.inner", "crimp/forms.turned"], apart := false, laid := [("crimp/cells.quarters", laid_crimp_cells_quarters), ("crimp/forms.turned", laid_crimp_forms_turned), ("crimp/forms.inner", laid_crimp_forms_inner)] }
def FormsImagesSaid : Prop := formsImagesRow.holds Tryd.pinned (OpenSpec.ofChange formsImagesSpec)

/-- ITS FALSE NEIGHBOUR: 'it returns false'. Refute it at one input. -/
def formsImagesWrong : ChangeSpec := { name := "formsImages", fn := fun _ => fun
  | [d] => { results := [.lit (.bool false)], args := [d] }
  | _ => none }
def FormsImagesWrongFalsely : Prop := formsImagesRow.holds Tryd.pinned (OpenSpec.ofChange formsImagesWrong)

/-- 'crimplaw33.FormsLeast': WHATEVER THE INPUT: true; the input reads as it did. -/
def formsLeastSpec : ChangeSpec := { name := "formsLeast", fn := fun _ => fun
  | [d] => { results := [.lit (.bool true)], args := [d] }
  | _ => none }
def formsLeastRow : OpenClaim := { program := "ythfkpmobmnfgcaadoor", sum := "6d94819d4bf7ee41eb6de90326e256aebe6bf0d03eac4818bad9cb9e3dfe4c3d", func := "crimp/crimplaw33.FormsLeast", spec := "formsLeast", unfollowed := true, recurses := true, named := ["crimp/cells.quarters", "crimp/forms.inner", "crimp/forms.turned"], apart := false, laid := [("crimp/cells.quarters", laid_crimp_cells_quarters), ("crimp/forms.turned", laid_crimp_forms_turned), ("crimp/forms.inner", laid_crimp_forms_inner)] }
def FormsLeastSaid : Prop := formsLeastRow.holds Tryd.pinned (OpenSpec.ofChange formsLeastSpec)

/-- ITS FALSE NEIGHBOUR: 'it returns false'. Refute it at one input. -/
def formsLeastWrong : ChangeSpec := { name := "formsLeast", fn := fun _ => fun
  | [d] => { results := [.lit (.bool false)], args := [d] }
  | _ => none }
def FormsLeastWrongFalsely : Prop := formsLeastRow.holds Tryd.pinned (OpenSpec.ofChange formsLeastWrong)

/-- 'crimplaw33.FormsCompare': WHATEVER THE INPUT: true; the input reads as it did. -/
def formsCompareSpec : ChangeSpec := { name := "formsCompare", fn := fun _ => fun
  | [d1, d2, d3] => { results := [.lit (.bool true)], args := [d1, d2, d3] }
  | _ => none }
def formsCompareRow : OpenClaim := { program := "ythfkpmobmnfgcaadoor", sum := "6d94819d4bf7ee41eb6de90326e256aebe6bf0d03eac4818bad9cb9e3dfe4c3d", func := "crimp/crimplaw33.FormsCompare", spec := "formsCompare", unfollowed := true, recurses := true, named := ["crimp/cells.quarters", "crimp/forms.inner", "crimp/forms.turned"], apart := false, laid := [("crimp/cells.quarters", laid_crimp_cells_quarters), ("crimp/forms.turned", laid_crimp_forms_turned), ("crimp/forms.inner", laid_crimp_forms_inner)] }
def FormsCompareSaid : Prop := formsCompareRow.holds Tryd.pinned (OpenSpec.ofChange formsCompareSpec)

/-- ITS FALSE NEIGHBOUR: 'it returns false'. Refute it at one input. -/
def formsCompareWrong : ChangeSpec := { name := "formsCompare", fn := fun _ => fun
  | [d1, d2, d3] => { results := [.lit (.bool false)], args := [d1, d2, d3] }
  | _ => none }
def FormsCompareWrongFalsely : Prop := formsCompareRow.holds Tryd.pinned (OpenSpec.ofChange formsCompareWrong)

/-- 'crimplaw33.FormsAlike': WHATEVER THE INPUT: true; the input reads as it did. -/
def formsAlikeSpec : ChangeSpec := { name := "formsAlike", fn := fun _ => fun
  | [d1, d2, d3] => { results := [.lit (.bool true)], args := [d1, d2, d3] }
  | _ => none }
def formsAlikeRow : OpenClaim := { program := "ythfkpmobmnfgcaadoor", sum := "6d94819d4bf7ee41eb6de90326e256aebe6bf0d03eac4818bad9cb9e3dfe4c3d", func := "crimp/crimplaw33.FormsAlike", spec := "formsAlike", unfollowed := true, recurses := true, named := ["crimp/cells.quarters", "crimp/forms.inner", "crimp/forms.turned"], apart := false, laid := [("crimp/cells.quarters", laid_crimp_cells_quarters), ("crimp/forms.turned", laid_crimp_forms_turned), ("crimp/forms.inner", laid_crimp_forms_inner)] }
def FormsAlikeSaid : Prop := formsAlikeRow.holds Tryd.pinned (OpenSpec.ofChange formsAlikeSpec)

/-- ITS FALSE NEIGHBOUR: 'it returns false'. Refute it at one input. -/
def formsAlikeWrong : ChangeSpec := { name := "formsAlike", fn := fun _ => fun
  | [d1, d2, d3] => { results := [.lit (.bool false)], args := [d1, d2, d3] }
  | _ => none }
def FormsAlikeWrongFalsely : Prop := formsAlikeRow.holds Tryd.pinned (OpenSpec.ofChange formsAlikeWrong)

/-- 'crimplaw33.FormsErrors': WHATEVER THE INPUT: true; the input reads as it did. -/
def formsErrorsSpec : ChangeSpec := { name := "formsErrors", fn := fun _ => fun
  | [d1, d2] => { results := [.lit (.bool true)], args := [d1, d2] }
  | _ => none }
def formsErrorsRow : OpenClaim := { program := "ythfkpmobmnfgcaadoor", sum := "6d94819d4bf7ee41eb6de90326e256aebe6bf0d03eac4818bad9cb9e3dfe4c3d", func := "crimp/crimplaw33.FormsErrors", spec := "formsErrors", unfollowed := true, recurses := true, named := ["crimp/cells.quarters", "crimp/forms.inner", "crimp/forms.turned"], apart := false, laid := [("crimp/cells.quarters", laid_crimp_cells_quarters), ("crimp/forms.turned", laid_crimp_forms_turned), ("crimp/forms.inner", laid_crimp_forms_inner)] }
def FormsErrorsSaid : Prop := formsErrorsRow.holds Tryd.pinned (OpenSpec.ofChange formsErrorsSpec)

/-- ITS FALSE NEIGHBOUR: 'it returns false'. Refute it at one input. -/
def formsErrorsWrong : ChangeSpec := { name := "formsErrors", fn := fun _ => fun
  | [d1, d2] => { results := [.lit (.bool false)], args := [d1, d2] }
  | _ => none }
def FormsErrorsWrongFalsely : Prop := formsErrorsRow.holds Tryd.pinned (OpenSpec.ofChange formsErrorsWrong)

/- THE SECOND FORM. 'bulk': how many values and letters a reading holds, each counted each time it is reached (what is shared counts as often as it is met; a slice's spare places count too). A statement '..UptoSaid' is the law's where the arguments, and the package variables that the reading takes, are together of bulk at most 1048576: NARROWER than '..Said'. Prove '..Said' where nothing that the law and all that it calls make is longer than what came in: it says more and counts as full. Else prove '..UptoSaid'. A law counts once. -/
mutual
def uptoBulk {H : Type} : DataW H → Nat
  | .lit (.string bytes) => bytes.length + 1
  | .lit _ => 1
  | .nil => 1
  | .ptr d => uptoBulk d + 1
  | .slice elems spare => uptoBulkAll elems + uptoBulkAll spare + 1
  | .agg parts => uptoBulkAll parts + 1
  | .iface _ d => uptoBulk d + 1
  | .map entries => uptoBulkEntries entries + 1
  | .held _ => 1
def uptoBulkAll {H : Type} : List (DataW H) → Nat
  | [] => 0
  | d :: r => uptoBulk d + uptoBulkAll r
def uptoBulkEntries {H : Type} : List (Lit × DataW H) → Nat
  | [] => 0
  | x :: r => uptoBulkEntry x + uptoBulkEntries r
def uptoBulkEntry {H : Type} : Lit × DataW H → Nat
  | (.string bytes, d) => bytes.length + uptoBulk d + 1
  | (_, d) => uptoBulk d + 1
 end
def uptoSmall : (H : Type) → List (DataW H) → Bool := fun _ ds => decide (uptoBulkAll ds ≤ 1048576)
def OpenSpec.upto (s : _root_.Go.ChangeSpec) : _root_.Go.OpenSpec := { _root_.Go.OpenSpec.ofChange s with cond := some uptoSmall }

/-- 'crimplaw33.FormsImages', WHERE WHAT IT READS IS OF BULK AT MOST 1048576: true; the input reads as it did. -/
def formsImagesUptoRow : OpenClaim := { program := "ythfkpmobmnfgcaadoor", sum := "6d94819d4bf7ee41eb6de90326e256aebe6bf0d03eac4818bad9cb9e3dfe4c3d", func := "crimp/crimplaw33.FormsImages", spec := "formsImages", unfollowed := true, recurses := true, named := ["crimp/cells.quarters", "crimp/forms.inner", "crimp/forms.turned"], apart := false, laid := [("crimp/cells.quarters", laid_crimp_cells_quarters), ("crimp/forms.turned", laid_crimp_forms_turned), ("crimp/forms.inner", laid_crimp_forms_inner)], narrowed := true }
def FormsImagesUptoSaid : Prop := formsImagesUptoRow.holds Tryd.pinned (OpenSpec.upto formsImagesSpec)

/-- 'crimplaw33.FormsLeast', WHERE WHAT IT READS IS OF BULK AT MOST 1048576: true; the input reads as it did. -/
def formsLeastUptoRow : OpenClaim := { program := "ythfkpmobmnfgcaadoor", sum := "6d94819d4bf7ee41eb6de90326e256aebe6bf0d03eac4818bad9cb9e3dfe4c3d", func := "crimp/crimplaw33.FormsLeast", spec := "formsLeast", unfollowed := true, recurses := true, named := ["crimp/cells.quarters", "crimp/forms.inner", "crimp/forms.turned"], apart := false, laid := [("crimp/cells.quarters", laid_crimp_cells_quarters), ("crimp/forms.turned", laid_crimp_forms_turned), ("crimp/forms.inner", laid_crimp_forms_inner)], narrowed := true }
def FormsLeastUptoSaid : Prop := formsLeastUptoRow.holds Tryd.pinned (OpenSpec.upto formsLeastSpec)

/-- 'crimplaw33.FormsCompare', WHERE WHAT IT READS IS OF BULK AT MOST 1048576: true; the input reads as it did. -/
def formsCompareUptoRow : OpenClaim := { program := "ythfkpmobmnfgcaadoor", sum := "6d94819d4bf7ee41eb6de90326e256aebe6bf0d03eac4818bad9cb9e3dfe4c3d", func := "crimp/crimplaw33.FormsCompare", spec := "formsCompare", unfollowed := true, recurses := true, named := ["crimp/cells.quarters", "crimp/forms.inner", "crimp/forms.turned"], apart := false, laid := [("crimp/cells.quarters", laid_crimp_cells_quarters), ("crimp/forms.turned", laid_crimp_forms_turned), ("crimp/forms.inner", laid_crimp_forms_inner)], narrowed := true }
def FormsCompareUptoSaid : Prop := formsCompareUptoRow.holds Tryd.pinned (OpenSpec.upto formsCompareSpec)

/-- 'crimplaw33.FormsAlike', WHERE WHAT IT READS IS OF BULK AT MOST 1048576: true; the input reads as it did. -/
def formsAlikeUptoRow : OpenClaim := { program := "ythfkpmobmnfgcaadoor", sum := "6d94819d4bf7ee41eb6de90326e256aebe6bf0d03eac4818bad9cb9e3dfe4c3d", func := "crimp/crimplaw33.FormsAlike", spec := "formsAlike", unfollowed := true, recurses := true, named := ["crimp/cells.quarters", "crimp/forms.inner", "crimp/forms.turned"], apart := false, laid := [("crimp/cells.quarters", laid_crimp_cells_quarters), ("crimp/forms.turned", laid_crimp_forms_turned), ("crimp/forms.inner", laid_crimp_forms_inner)], narrowed := true }
def FormsAlikeUptoSaid : Prop := formsAlikeUptoRow.holds Tryd.pinned (OpenSpec.upto formsAlikeSpec)

/-- 'crimplaw33.FormsErrors', WHERE WHAT IT READS IS OF BULK AT MOST 1048576: true; the input reads as it did. -/
def formsErrorsUptoRow : OpenClaim := { program := "ythfkpmobmnfgcaadoor", sum := "6d94819d4bf7ee41eb6de90326e256aebe6bf0d03eac4818bad9cb9e3dfe4c3d", func := "crimp/crimplaw33.FormsErrors", spec := "formsErrors", unfollowed := true, recurses := true, named := ["crimp/cells.quarters", "crimp/forms.inner", "crimp/forms.turned"], apart := false, laid := [("crimp/cells.quarters", laid_crimp_cells_quarters), ("crimp/forms.turned", laid_crimp_forms_turned), ("crimp/forms.inner", laid_crimp_forms_inner)], narrowed := true }
def FormsErrorsUptoSaid : Prop := formsErrorsUptoRow.holds Tryd.pinned (OpenSpec.upto formsErrorsSpec)

end Rows
end Go.Proofs.YthfkpmobmnfgcaaDoor
