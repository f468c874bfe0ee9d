/-
  NARROWER THAN 'FOR EVERY INPUT', by the rows' own cells (each row's printed sentence says how): StatesFlat: laid · GaugesCreases: laid · GaugesNeeds: laid · GaugesErrors: laid.
  DERIVED. THE GIVEN ROWS OF THIS SEAT. 4 by the template 'for every input the law returns true; each argument reads behind the call as it read before'; 0 by the template 'total and deterministic' (their statements: YtdblhepcmjecgaaGreatDoorTotals.lean).
  GIVEN WITH THE SEED: the statements are not yours to turn. If you find one false, say at which input.
  Laid BY PROGRAM, IN A SANDBOX (cutbox-rows.mjs): the forced cells as the released guide's own fill.sh prints them over the translation 9ab96eefbfef865d… (all of the seat's roots in one cut). By AI agents, Wed Nov 11 2026. No macro, syntax, notation, axiom, sorry.
-/
import Derived.Test.YtdblhepcmjecgaaGreatDoorChecked
import GoSem.Claim
import GoSem.ClaimJoined
import GoSem.ClaimMapViews
import Derived.JoinedTies
import Derived.KernelRfl
namespace Go.Proofs.YtdblhepcmjecgaaGreatDoor
/- THE CELL 'sum', in the pinned program and in every row, IS THE sha256 OF THE DUMP (.gsa) THAT YtdblhepcmjecgaaGreatDoorProg.lean LOADS. Nothing in Lean hashes anything: it is a label: what it is worth is what the hold of that sum in a sandbox is worth. -/
noncomputable def Tryz.pinned : Pinned := { name := "ytdblhepcmjecgaagreatdoor", sum := "9ab96eefbfef865d56b8d70213a8a3a137a9f6e330e909c20ecae1c2d4d120af", checked := Tryz.checked }
namespace Rows
def none {H : Type} : Left H := { results := [], args := [] }

/- WHAT THE LISTED PACKAGE-LEVEL VARIABLES READ AS WHEN THE CALL BEGINS. Each datum BY PROGRAM (the guide's laid-datum.mjs) off the statement by which the dump's own 'gosem.cut.vars' lays the variable. In a bare row this is a premise. The card (YtdblhepcmjecgaaGreatDoorCards.lean) ties it to the program's text. -/
def laid_crimp_moves_turns {H : Type} : DataW H := .agg [.agg [.lit (.int .i64 1), .lit (.int .i64 0), .lit (.int .i64 0), .lit (.int .i64 1)], .agg [.lit (.int .i64 0), .lit (.int .i64 (-1)), .lit (.int .i64 1), .lit (.int .i64 0)], .agg [.lit (.int .i64 (-1)), .lit (.int .i64 0), .lit (.int .i64 0), .lit (.int .i64 (-1))], .agg [.lit (.int .i64 0), .lit (.int .i64 1), .lit (.int .i64 (-1)), .lit (.int .i64 0)], .agg [.lit (.int .i64 (-1)), .lit (.int .i64 0), .lit (.int .i64 0), .lit (.int .i64 1)], .agg [.lit (.int .i64 0), .lit (.int .i64 (-1)), .lit (.int .i64 (-1)), .lit (.int .i64 0)], .agg [.lit (.int .i64 1), .lit (.int .i64 0), .lit (.int .i64 0), .lit (.int .i64 (-1))], .agg [.lit (.int .i64 0), .lit (.int .i64 1), .lit (.int .i64 1), .lit (.int .i64 0)]]
def laid_crimp_cells_quarters {H : Type} : DataW H := .agg [.agg [.agg [.lit (.int .i64 0), .lit (.int .i64 (-1))], .lit (.int .u8 2), .lit (.int .i64 0), .agg [.agg [.lit (.int .i64 0), .lit (.int .i64 (-1)), .lit (.int .u8 2)], .agg [.lit (.int .i64 0), .lit (.int .i64 0), .lit (.int .u8 1)], .agg [.lit (.int .i64 0), .lit (.int .i64 0), .lit (.int .u8 3)]], .agg [.lit (.int .i64 0), .lit (.int .i64 0)], .agg [.lit (.int .i64 2), .lit (.int .i64 0)]], .agg [.agg [.lit (.int .i64 1), .lit (.int .i64 0)], .lit (.int .u8 1), .lit (.int .i64 1), .agg [.agg [.lit (.int .i64 1), .lit (.int .i64 0), .lit (.int .u8 3)], .agg [.lit (.int .i64 0), .lit (.int .i64 0), .lit (.int .u8 0)], .agg [.lit (.int .i64 0), .lit (.int .i64 0), .lit (.int .u8 2)]], .agg [.lit (.int .i64 2), .lit (.int .i64 2)], .agg [.lit (.int .i64 2), .lit (.int .i64 0)]], .agg [.agg [.lit (.int .i64 0), .lit (.int .i64 1)], .lit (.int .u8 2), .lit (.int .i64 1), .agg [.agg [.lit (.int .i64 0), .lit (.int .i64 1), .lit (.int .u8 0)], .agg [.lit (.int .i64 0), .lit (.int .i64 0), .lit (.int .u8 3)], .agg [.lit (.int .i64 0), .lit (.int .i64 0), .lit (.int .u8 1)]], .agg [.lit (.int .i64 2), .lit (.int .i64 2)], .agg [.lit (.int .i64 0), .lit (.int .i64 2)]], .agg [.agg [.lit (.int .i64 (-1)), .lit (.int .i64 0)], .lit (.int .u8 1), .lit (.int .i64 0), .agg [.agg [.lit (.int .i64 (-1)), .lit (.int .i64 0), .lit (.int .u8 1)], .agg [.lit (.int .i64 0), .lit (.int .i64 0), .lit (.int .u8 2)], .agg [.lit (.int .i64 0), .lit (.int .i64 0), .lit (.int .u8 0)]], .agg [.lit (.int .i64 0), .lit (.int .i64 0)], .agg [.lit (.int .i64 0), .lit (.int .i64 2)]]]

/-- 'crimplaw25.StatesFlat': WHATEVER THE INPUT: true; the input reads as it did. -/
def statesFlatSpec : ChangeSpec := { name := "statesFlat", fn := fun _ => fun
  | [d1, d2] => { results := [.lit (.bool true)], args := [d1, d2] }
  | _ => none }
def statesFlatRow : OpenClaim := { program := "ytdblhepcmjecgaagreatdoor", sum := "9ab96eefbfef865d56b8d70213a8a3a137a9f6e330e909c20ecae1c2d4d120af", func := "crimp/crimplaw25.StatesFlat", spec := "statesFlat", unfollowed := true, recurses := true, named := ["crimp/cells.quarters", "crimp/moves.turns"], plainKeys := false, apart := false, laid := [("crimp/moves.turns", laid_crimp_moves_turns), ("crimp/cells.quarters", laid_crimp_cells_quarters)] }
def StatesFlatSaid : Prop := statesFlatRow.holds Tryz.pinned (OpenSpec.ofChange statesFlatSpec)

/-- ITS FALSE NEIGHBOUR: 'it returns false'. Refute it at one input. -/
def statesFlatWrong : ChangeSpec := { name := "statesFlat", fn := fun _ => fun
  | [d1, d2] => { results := [.lit (.bool false)], args := [d1, d2] }
  | _ => none }
def StatesFlatWrongFalsely : Prop := statesFlatRow.holds Tryz.pinned (OpenSpec.ofChange statesFlatWrong)

/-- 'crimplaw40.GaugesCreases': WHATEVER THE INPUT: true; the input reads as it did. -/
def gaugesCreasesSpec : ChangeSpec := { name := "gaugesCreases", fn := fun _ => fun
  | [d] => { results := [.lit (.bool true)], args := [d] }
  | _ => none }
def gaugesCreasesRow : OpenClaim := { program := "ytdblhepcmjecgaagreatdoor", sum := "9ab96eefbfef865d56b8d70213a8a3a137a9f6e330e909c20ecae1c2d4d120af", func := "crimp/crimplaw40.GaugesCreases", spec := "gaugesCreases", unfollowed := true, recurses := true, named := ["crimp/cells.quarters", "crimp/moves.turns"], plainKeys := false, apart := false, laid := [("crimp/moves.turns", laid_crimp_moves_turns), ("crimp/cells.quarters", laid_crimp_cells_quarters)] }
def GaugesCreasesSaid : Prop := gaugesCreasesRow.holds Tryz.pinned (OpenSpec.ofChange gaugesCreasesSpec)

/-- ITS FALSE NEIGHBOUR: 'it returns false'. Refute it at one input. -/
def gaugesCreasesWrong : ChangeSpec := { name := "gaugesCreases", fn := fun _ => fun
  | [d] => { results := [.lit (.bool false)], args := [d] }
  | _ => none }
def GaugesCreasesWrongFalsely : Prop := gaugesCreasesRow.holds Tryz.pinned (OpenSpec.ofChange gaugesCreasesWrong)

/-- 'crimplaw40.GaugesNeeds': WHATEVER THE INPUT: true; the input reads as it did. -/
def gaugesNeedsSpec : ChangeSpec := { name := "gaugesNeeds", fn := fun _ => fun
  | [d1, d2, d3] => { results := [.lit (.bool true)], args := [d1, d2, d3] }
  | _ => none }
def gaugesNeedsRow : OpenClaim := { program := "ytdblhepcmjecgaagreatdoor", sum := "9ab96eefbfef865d56b8d70213a8a3a137a9f6e330e909c20ecae1c2d4d120af", func := "crimp/crimplaw40.GaugesNeeds", spec := "gaugesNeeds", unfollowed := true, recurses := true, named := ["crimp/cells.quarters", "crimp/moves.turns"], plainKeys := false, apart := false, laid := [("crimp/moves.turns", laid_crimp_moves_turns), ("crimp/cells.quarters", laid_crimp_cells_quarters)] }
def GaugesNeedsSaid : Prop := gaugesNeedsRow.holds Tryz.pinned (OpenSpec.ofChange gaugesNeedsSpec)

/-- ITS FALSE NEIGHBOUR: 'it returns false'. Refute it at one input. -/
def gaugesNeedsWrong : ChangeSpec := { name := "gaugesNeeds", fn := fun _ => fun
  | [d1, d2, d3] => { results := [.lit (.bool false)], args := [d1, d2, d3] }
  | _ => none }
def GaugesNeedsWrongFalsely : Prop := gaugesNeedsRow.holds Tryz.pinned (OpenSpec.ofChange gaugesNeedsWrong)

/-- 'crimplaw40.GaugesErrors': WHATEVER THE INPUT: true; the input reads as it did. -/
def gaugesErrorsSpec : ChangeSpec := { name := "gaugesErrors", fn := fun _ => fun
  | [d1, d2, d3] => { results := [.lit (.bool true)], args := [d1, d2, d3] }
  | _ => none }
def gaugesErrorsRow : OpenClaim := { program := "ytdblhepcmjecgaagreatdoor", sum := "9ab96eefbfef865d56b8d70213a8a3a137a9f6e330e909c20ecae1c2d4d120af", func := "crimp/crimplaw40.GaugesErrors", spec := "gaugesErrors", unfollowed := true, recurses := true, named := ["crimp/cells.quarters", "crimp/moves.turns"], plainKeys := false, apart := false, laid := [("crimp/moves.turns", laid_crimp_moves_turns), ("crimp/cells.quarters", laid_crimp_cells_quarters)] }
def GaugesErrorsSaid : Prop := gaugesErrorsRow.holds Tryz.pinned (OpenSpec.ofChange gaugesErrorsSpec)

/-- ITS FALSE NEIGHBOUR: 'it returns false'. Refute it at one input. -/
def gaugesErrorsWrong : ChangeSpec := { name := "gaugesErrors", fn := fun _ => fun
  | [d1, d2, d3] => { results := [.lit (.bool false)], args := [d1, d2, d3] }
  | _ => none }
def GaugesErrorsWrongFalsely : Prop := gaugesErrorsRow.holds Tryz.pinned (OpenSpec.ofChange gaugesErrorsWrong)

/- THE SECOND FORM. 'bulk': how many values and letters a reading holds, each counted each time it is reached (what is shared counts as often as it is met; a slice's spare places count too). A statement '..UptoSaid' is the law's where the arguments, and the package variables that the reading takes, are together of bulk at most 1048576: NARROWER than '..Said'. Prove '..Said' where nothing that the law and all that it calls make is longer than what came in: it says more and counts as full. Else prove '..UptoSaid'. A law counts once. -/
mutual
def uptoBulk {H : Type} : DataW H → Nat
  | .lit (.string bytes) => bytes.length + 1
  | .lit _ => 1
  | .nil => 1
  | .ptr d => uptoBulk d + 1
  | .slice elems spare => uptoBulkAll elems + uptoBulkAll spare + 1
  | .agg parts => uptoBulkAll parts + 1
  | .iface _ d => uptoBulk d + 1
  | .map entries => uptoBulkEntries entries + 1
  | .held _ => 1
def uptoBulkAll {H : Type} : List (DataW H) → Nat
  | [] => 0
  | d :: r => uptoBulk d + uptoBulkAll r
def uptoBulkEntries {H : Type} : List (Lit × DataW H) → Nat
  | [] => 0
  | x :: r => uptoBulkEntry x + uptoBulkEntries r
def uptoBulkEntry {H : Type} : Lit × DataW H → Nat
  | (.string bytes, d) => bytes.length + uptoBulk d + 1
  | (_, d) => uptoBulk d + 1
 end
def uptoSmall : (H : Type) → List (DataW H) → Bool := fun _ ds => decide (uptoBulkAll ds ≤ 1048576)
def OpenSpec.upto (s : _root_.Go.ChangeSpec) : _root_.Go.OpenSpec := { _root_.Go.OpenSpec.ofChange s with cond := some uptoSmall }

/-- 'crimplaw25.StatesFlat', WHERE WHAT IT READS IS OF BULK AT MOST 1048576: true; the input reads as it did. -/
def statesFlatUptoRow : OpenClaim := { program := "ytdblhepcmjecgaagreatdoor", sum := "9ab96eefbfef865d56b8d70213a8a3a137a9f6e330e909c20ecae1c2d4d120af", func := "crimp/crimplaw25.StatesFlat", spec := "statesFlat", unfollowed := true, recurses := true, named := ["crimp/cells.quarters", "crimp/moves.turns"], plainKeys := false, apart := false, laid := [("crimp/moves.turns", laid_crimp_moves_turns), ("crimp/cells.quarters", laid_crimp_cells_quarters)], narrowed := true }
def StatesFlatUptoSaid : Prop := statesFlatUptoRow.holds Tryz.pinned (OpenSpec.upto statesFlatSpec)

/-- 'crimplaw40.GaugesCreases', WHERE WHAT IT READS IS OF BULK AT MOST 1048576: true; the input reads as it did. -/
def gaugesCreasesUptoRow : OpenClaim := { program := "ytdblhepcmjecgaagreatdoor", sum := "9ab96eefbfef865d56b8d70213a8a3a137a9f6e330e909c20ecae1c2d4d120af", func := "crimp/crimplaw40.GaugesCreases", spec := "gaugesCreases", unfollowed := true, recurses := true, named := ["crimp/cells.quarters", "crimp/moves.turns"], plainKeys := false, apart := false, laid := [("crimp/moves.turns", laid_crimp_moves_turns), ("crimp/cells.quarters", laid_crimp_cells_quarters)], narrowed := true }
def GaugesCreasesUptoSaid : Prop := gaugesCreasesUptoRow.holds Tryz.pinned (OpenSpec.upto gaugesCreasesSpec)

/-- 'crimplaw40.GaugesNeeds', WHERE WHAT IT READS IS OF BULK AT MOST 1048576: true; the input reads as it did. -/
def gaugesNeedsUptoRow : OpenClaim := { program := "ytdblhepcmjecgaagreatdoor", sum := "9ab96eefbfef865d56b8d70213a8a3a137a9f6e330e909c20ecae1c2d4d120af", func := "crimp/crimplaw40.GaugesNeeds", spec := "gaugesNeeds", unfollowed := true, recurses := true, named := ["crimp/cells.quarters", "crimp/moves.turns"], plainKeys := false, apart := false, laid := [("crimp/moves.turns", laid_crimp_moves_turns), ("crimp/cells.quarters", laid_crimp_cells_quarters)], narrowed := true }
def GaugesNeedsUptoSaid : Prop := gaugesNeedsUptoRow.holds Tryz.pinned (OpenSpec.upto gaugesNeedsSpec)

/-- 'crimplaw40.GaugesErrors', WHERE WHAT IT READS IS OF BULK AT MOST 1048576: true; the input reads as it did. -/
def gaugesErrorsUptoRow : OpenClaim := { program := "ytdblhepcmjecgaagreatdoor", sum := "9ab96eefbfef865d56b8d70213a8a3a137a9f6e330e909c20ecae1c2d4d120af", func := "crimp/crimplaw40.GaugesErrors", spec := "gaugesErrors", unfollowed := true, recurses := true, named := ["crimp/cells.quarters", "crimp/moves.turns"], plainKeys := false, apart := false, laid := [("crimp/moves.turns", laid_crimp_moves_turns), ("crimp/cells.quarters", laid_crimp_cells_quarters)], narrowed := true }
def GaugesErrorsUptoSaid : Prop := gaugesErrorsUptoRow.holds Tryz.pinned (OpenSpec.upto gaugesErrorsSpec)

end Rows
end Go.Proofs.YtdblhepcmjecgaaGreatDoor
