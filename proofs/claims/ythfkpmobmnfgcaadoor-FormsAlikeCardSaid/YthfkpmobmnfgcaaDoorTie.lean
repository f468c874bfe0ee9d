/-
  DERIVED. GIVEN WITH THE SEED: THE PROGRAM's TIES (one call each: nine closed facts by the kernel) AND EACH ROW's TIE, after the 31st guide's Derived/Test/Toyas{Tie, Card}.lean. No idea stands in it: it is a product of the set-up. Laid BY PROGRAM, IN A SANDBOX (cutbox-door.mjs). By AI agents, Wed Nov 11 2026. No macro, syntax, notation, axiom, sorry.
-/
import Derived.Test.YthfkpmobmnfgcaaDoorRows
import Derived.LaidByTextLater
import Derived.SevenTiedAt
import Derived.LaidSub
import Derived.LaidOnce
namespace Go.Proofs.YthfkpmobmnfgcaaDoor
open Go
set_option maxRecDepth 100000
theorem seatTie1 : Tryd.prog.laidByTextLater [("crimp/cells.quarters", Rows.laid_crimp_cells_quarters), ("crimp/forms.turned", Rows.laid_crimp_forms_turned), ("crimp/forms.inner", Rows.laid_crimp_forms_inner)] [.data, .funcs, .widerDeep] true :=
  Program.laidByTextLater_by_one 60 8 69 (by kernel_rfl) (by kernel_rfl) (by kernel_rfl) (by kernel_rfl) (by kernel_rfl) (by kernel_rfl) (fun _ _ => by kernel_rfl)
theorem noOwnUnsafe : Tryd.pinned.checked.prog.headLifts.contains "ownunsafe" = false := by kernel_rfl
theorem tie : Tryd.prog.laidByTextLater [("crimp/cells.quarters", Rows.laid_crimp_cells_quarters), ("crimp/forms.turned", Rows.laid_crimp_forms_turned), ("crimp/forms.inner", Rows.laid_crimp_forms_inner)] [.data, .funcs, .widerDeep] true :=
  Program.laidByTextLater.sub seatTie1 ["crimp/cells.quarters", "crimp/forms.turned", "crimp/forms.inner"] (by kernel_rfl) (by kernel_rfl)
theorem formsImages_row_tie : Rows.formsImagesRow.laidByTextAt .later Tryd.pinned [.data, .funcs, .widerDeep] true :=
  OpenClaim.laidByTextAt_later rfl rfl tie noOwnUnsafe
theorem formsLeast_row_tie : Rows.formsLeastRow.laidByTextAt .later Tryd.pinned [.data, .funcs, .widerDeep] true :=
  OpenClaim.laidByTextAt_later rfl rfl tie noOwnUnsafe
theorem formsCompare_row_tie : Rows.formsCompareRow.laidByTextAt .later Tryd.pinned [.data, .funcs, .widerDeep] true :=
  OpenClaim.laidByTextAt_later rfl rfl tie noOwnUnsafe
theorem formsAlike_row_tie : Rows.formsAlikeRow.laidByTextAt .later Tryd.pinned [.data, .funcs, .widerDeep] true :=
  OpenClaim.laidByTextAt_later rfl rfl tie noOwnUnsafe
theorem formsErrors_row_tie : Rows.formsErrorsRow.laidByTextAt .later Tryd.pinned [.data, .funcs, .widerDeep] true :=
  OpenClaim.laidByTextAt_later rfl rfl tie noOwnUnsafe
theorem formsImagesUpto_row_tie : Rows.formsImagesUptoRow.laidByTextAt .later Tryd.pinned [.data, .funcs, .widerDeep] true :=
  OpenClaim.laidByTextAt_later rfl rfl tie noOwnUnsafe
theorem formsLeastUpto_row_tie : Rows.formsLeastUptoRow.laidByTextAt .later Tryd.pinned [.data, .funcs, .widerDeep] true :=
  OpenClaim.laidByTextAt_later rfl rfl tie noOwnUnsafe
theorem formsCompareUpto_row_tie : Rows.formsCompareUptoRow.laidByTextAt .later Tryd.pinned [.data, .funcs, .widerDeep] true :=
  OpenClaim.laidByTextAt_later rfl rfl tie noOwnUnsafe
theorem formsAlikeUpto_row_tie : Rows.formsAlikeUptoRow.laidByTextAt .later Tryd.pinned [.data, .funcs, .widerDeep] true :=
  OpenClaim.laidByTextAt_later rfl rfl tie noOwnUnsafe
theorem formsErrorsUpto_row_tie : Rows.formsErrorsUptoRow.laidByTextAt .later Tryd.pinned [.data, .funcs, .widerDeep] true :=
  OpenClaim.laidByTextAt_later rfl rfl tie noOwnUnsafe
end Go.Proofs.YthfkpmobmnfgcaaDoor
