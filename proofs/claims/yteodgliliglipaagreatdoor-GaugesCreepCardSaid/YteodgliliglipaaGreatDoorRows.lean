/-
  NARROWER THAN 'FOR EVERY INPUT', by the rows' own cells (each row's printed sentence says how): StatesFlat: laid · FoldsCompare: laid · TurnsCorner: laid · TurnsCheck: laid · GaugesBend: laid · GaugesCreep: laid · GaugesNested: laid.
  DERIVED. THE GIVEN ROWS OF THIS SEAT. 7 by the template 'for every input the law returns true; each argument reads behind the call as it read before'; 0 by the template 'total and deterministic' (their statements: YteodgliliglipaaGreatDoorTotals.lean).
  GIVEN WITH THE SEED: the statements are not yours to turn. If you find one false, say at which input.
  Laid BY PROGRAM, IN A SANDBOX (cutbox-rows.mjs): the forced cells as the released guide's own fill.sh prints them over the translation f7b2d1e6c1b2650c… (all of the seat's roots in one cut). By AI agents, Wed Nov 11 2026. No macro, syntax, notation, axiom, sorry.
-/
import Derived.Test.YteodgliliglipaaGreatDoorChecked
import GoSem.Claim
import GoSem.ClaimJoined
import GoSem.ClaimMapViews
import Derived.JoinedTies
import Derived.KernelRfl
namespace Go.Proofs.YteodgliliglipaaGreatDoor
/- THE CELL 'sum', in the pinned program and in every row, IS THE sha256 OF THE DUMP (.gsa) THAT YteodgliliglipaaGreatDoorProg.lean LOADS. Nothing in Lean hashes anything: it is a label: what it is worth is what the hold of that sum in a sandbox is worth. -/
noncomputable def Tryz.pinned : Pinned := { name := "yteodgliliglipaagreatdoor", sum := "f7b2d1e6c1b2650cd07dce3fc798da1e570579692b70eb5271a6c6e2a9669bad", checked := Tryz.checked }
namespace Rows
def none {H : Type} : Left H := { results := [], args := [] }

/- WHAT THE LISTED PACKAGE-LEVEL VARIABLES READ AS WHEN THE CALL BEGINS. Each datum BY PROGRAM (the guide's laid-datum.mjs) off the statement by which the dump's own 'gosem.cut.vars' lays the variable. In a bare row this is a premise. The card (YteodgliliglipaaGreatDoorCards.lean) ties it to the program's text. -/
def laid_crimp_moves_turns {H : Type} : DataW H := .agg [.agg [.lit (.int .i64 1), .lit (.int .i64 0), .lit (.int .i64 0), .lit (.int .i64 1)], .agg [.lit (.int .i64 0), .lit (.int .i64 (-1)), .lit (.int .i64 1), .lit (.int .i64 0)], .agg [.lit (.int .i64 (-1)), .lit (.int .i64 0), .lit (.int .i64 0), .lit (.int .i64 (-1))], .agg [.lit (.int .i64 0), .lit (.int .i64 1), .lit (.int .i64 (-1)), .lit (.int .i64 0)], .agg [.lit (.int .i64 (-1)), .lit (.int .i64 0), .lit (.int .i64 0), .lit (.int .i64 1)], .agg [.lit (.int .i64 0), .lit (.int .i64 (-1)), .lit (.int .i64 (-1)), .lit (.int .i64 0)], .agg [.lit (.int .i64 1), .lit (.int .i64 0), .lit (.int .i64 0), .lit (.int .i64 (-1))], .agg [.lit (.int .i64 0), .lit (.int .i64 1), .lit (.int .i64 1), .lit (.int .i64 0)]]
def laid_crimp_cells_quarters {H : Type} : DataW H := .agg [.agg [.agg [.lit (.int .i64 0), .lit (.int .i64 (-1))], .lit (.int .u8 2), .lit (.int .i64 0), .agg [.agg [.lit (.int .i64 0), .lit (.int .i64 (-1)), .lit (.int .u8 2)], .agg [.lit (.int .i64 0), .lit (.int .i64 0), .lit (.int .u8 1)], .agg [.lit (.int .i64 0), .lit (.int .i64 0), .lit (.int .u8 3)]], .agg [.lit (.int .i64 0), .lit (.int .i64 0)], .agg [.lit (.int .i64 2), .lit (.int .i64 0)]], .agg [.agg [.lit (.int .i64 1), .lit (.int .i64 0)], .lit (.int .u8 1), .lit (.int .i64 1), .agg [.agg [.lit (.int .i64 1), .lit (.int .i64 0), .lit (.int .u8 3)], .agg [.lit (.int .i64 0), .lit (.int .i64 0), .lit (.int .u8 0)], .agg [.lit (.int .i64 0), .lit (.int .i64 0), .lit (.int .u8 2)]], .agg [.lit (.int .i64 2), .lit (.int .i64 2)], .agg [.lit (.int .i64 2), .lit (.int .i64 0)]], .agg [.agg [.lit (.int .i64 0), .lit (.int .i64 1)], .lit (.int .u8 2), .lit (.int .i64 1), .agg [.agg [.lit (.int .i64 0), .lit (.int .i64 1), .lit (.int .u8 0)], .agg [.lit (.int .i64 0), .lit (.int .i64 0), .lit (.int .u8 3)], .agg [.lit (.int .i64 0), .lit (.int .i64 0), .lit (.int .u8 1)]], .agg [.lit (.int .i64 2), .lit (.int .i64 2)], .agg [.lit (.int .i64 0), .lit (.int .i64 2)]], .agg [.agg [.lit (.int .i64 (-1)), .lit (.int .i64 0)], .lit (.int .u8 1), .lit (.int .i64 0), .agg [.agg [.lit (.int .i64 (-1)), .lit (.int .i64 0), .lit (.int .u8 1)], .agg [.lit (.int .i64 0), .lit (.int .i64 0), .lit (.int .u8 2)], .agg [.lit (.int .i64 0), .lit (.int .i64 0), .lit (.int .u8 0)]], .agg [.lit (.int .i64 0), .lit (.int .i64 0)], .agg [.lit (.int .i64 0), .lit (.int .i64 2)]]]

/-- 'crimplaw25.StatesFlat': WHATEVER THE INPUT: true; the input reads as it did. -/
def statesFlatSpec : ChangeSpec := { name := "statesFlat", fn := fun _ => fun
  | [d1, d2] => { results := [.lit (.bool true)], args := [d1, d2] }
  | _ => none }
def statesFlatRow : OpenClaim := { program := "yteodgliliglipaagreatdoor", sum := "f7b2d1e6c1b2650cd07dce3fc798da1e570579692b70eb5271a6c6e2a9669bad", func := "crimp/crimplaw25.StatesFlat", spec := "statesFlat", unfollowed := true, recurses := true, named := ["crimp/cells.quarters", "crimp/moves.turns"], plainKeys := false, apart := false, laid := [("crimp/moves.turns", laid_crimp_moves_turns), ("crimp/cells.quarters", laid_crimp_cells_quarters)] }
def StatesFlatSaid : Prop := statesFlatRow.holds Tryz.pinned (OpenSpec.ofChange statesFlatSpec)

/-- ITS FALSE NEIGHBOUR: 'it returns false'. Refute it at one input. -/
def statesFlatWrong : ChangeSpec := { name := "statesFlat", fn := fun _ => fun
  | [d1, d2] => { results := [.lit (.bool false)], args := [d1, d2] }
  | _ => none }
def StatesFlatWrongFalsely : Prop := statesFlatRow.holds Tryz.pinned (OpenSpec.ofChange statesFlatWrong)

/-- 'crimplaw28.FoldsCompare': WHATEVER THE INPUT: true; the input reads as it did. -/
def foldsCompareSpec : ChangeSpec := { name := "foldsCompare", fn := fun _ => fun
  | [d1, d2] => { results := [.lit (.bool true)], args := [d1, d2] }
  | _ => none }
def foldsCompareRow : OpenClaim := { program := "yteodgliliglipaagreatdoor", sum := "f7b2d1e6c1b2650cd07dce3fc798da1e570579692b70eb5271a6c6e2a9669bad", func := "crimp/crimplaw28.FoldsCompare", spec := "foldsCompare", unfollowed := true, recurses := true, named := ["crimp/cells.quarters", "crimp/moves.turns"], plainKeys := false, apart := false, laid := [("crimp/moves.turns", laid_crimp_moves_turns), ("crimp/cells.quarters", laid_crimp_cells_quarters)] }
def FoldsCompareSaid : Prop := foldsCompareRow.holds Tryz.pinned (OpenSpec.ofChange foldsCompareSpec)

/-- ITS FALSE NEIGHBOUR: 'it returns false'. Refute it at one input. -/
def foldsCompareWrong : ChangeSpec := { name := "foldsCompare", fn := fun _ => fun
  | [d1, d2] => { results := [.lit (.bool false)], args := [d1, d2] }
  | _ => none }
def FoldsCompareWrongFalsely : Prop := foldsCompareRow.holds Tryz.pinned (OpenSpec.ofChange foldsCompareWrong)

/-- 'crimplaw29.TurnsCorner': WHATEVER THE INPUT: true; the input reads as it did. -/
def turnsCornerSpec : ChangeSpec := { name := "turnsCorner", fn := fun _ => fun
  | [d] => { results := [.lit (.bool true)], args := [d] }
  | _ => none }
def turnsCornerRow : OpenClaim := { program := "yteodgliliglipaagreatdoor", sum := "f7b2d1e6c1b2650cd07dce3fc798da1e570579692b70eb5271a6c6e2a9669bad", func := "crimp/crimplaw29.TurnsCorner", spec := "turnsCorner", unfollowed := true, recurses := true, named := ["crimp/cells.quarters", "crimp/moves.turns"], plainKeys := false, apart := false, laid := [("crimp/moves.turns", laid_crimp_moves_turns), ("crimp/cells.quarters", laid_crimp_cells_quarters)] }
def TurnsCornerSaid : Prop := turnsCornerRow.holds Tryz.pinned (OpenSpec.ofChange turnsCornerSpec)

/-- ITS FALSE NEIGHBOUR: 'it returns false'. Refute it at one input. -/
def turnsCornerWrong : ChangeSpec := { name := "turnsCorner", fn := fun _ => fun
  | [d] => { results := [.lit (.bool false)], args := [d] }
  | _ => none }
def TurnsCornerWrongFalsely : Prop := turnsCornerRow.holds Tryz.pinned (OpenSpec.ofChange turnsCornerWrong)

/-- 'crimplaw29.TurnsCheck': WHATEVER THE INPUT: true; the input reads as it did. -/
def turnsCheckSpec : ChangeSpec := { name := "turnsCheck", fn := fun _ => fun
  | [d] => { results := [.lit (.bool true)], args := [d] }
  | _ => none }
def turnsCheckRow : OpenClaim := { program := "yteodgliliglipaagreatdoor", sum := "f7b2d1e6c1b2650cd07dce3fc798da1e570579692b70eb5271a6c6e2a9669bad", func := "crimp/crimplaw29.TurnsCheck", spec := "turnsCheck", unfollowed := true, recurses := true, named := ["crimp/cells.quarters", "crimp/moves.turns"], plainKeys := false, apart := false, laid := [("crimp/moves.turns", laid_crimp_moves_turns), ("crimp/cells.quarters", laid_crimp_cells_quarters)] }
def TurnsCheckSaid : Prop := turnsCheckRow.holds Tryz.pinned (OpenSpec.ofChange turnsCheckSpec)

/-- ITS FALSE NEIGHBOUR: 'it returns false'. Refute it at one input. -/
def turnsCheckWrong : ChangeSpec := { name := "turnsCheck", fn := fun _ => fun
  | [d] => { results := [.lit (.bool false)], args := [d] }
  | _ => none }
def TurnsCheckWrongFalsely : Prop := turnsCheckRow.holds Tryz.pinned (OpenSpec.ofChange turnsCheckWrong)

/-- 'crimplaw40.GaugesBend': WHATEVER THE INPUT: true; the input reads as it did. -/
def gaugesBendSpec : ChangeSpec := { name := "gaugesBend", fn := fun _ => fun
  | [d1, d2] => { results := [.lit (.bool true)], args := [d1, d2] }
  | _ => none }
def gaugesBendRow : OpenClaim := { program := "yteodgliliglipaagreatdoor", sum := "f7b2d1e6c1b2650cd07dce3fc798da1e570579692b70eb5271a6c6e2a9669bad", func := "crimp/crimplaw40.GaugesBend", spec := "gaugesBend", unfollowed := true, recurses := true, named := ["crimp/cells.quarters", "crimp/moves.turns"], plainKeys := false, apart := false, laid := [("crimp/moves.turns", laid_crimp_moves_turns), ("crimp/cells.quarters", laid_crimp_cells_quarters)] }
def GaugesBendSaid : Prop := gaugesBendRow.holds Tryz.pinned (OpenSpec.ofChange gaugesBendSpec)

/-- ITS FALSE NEIGHBOUR: 'it returns false'. Refute it at one input. -/
def gaugesBendWrong : ChangeSpec := { name := "gaugesBend", fn := fun _ => fun
  | [d1, d2] => { results := [.lit (.bool false)], args := [d1, d2] }
  | _ => none }
def GaugesBendWrongFalsely : Prop := gaugesBendRow.holds Tryz.pinned (OpenSpec.ofChange gaugesBendWrong)

/-- 'crimplaw40.GaugesCreep': WHATEVER THE INPUT: true; the input reads as it did. -/
def gaugesCreepSpec : ChangeSpec := { name := "gaugesCreep", fn := fun _ => fun
  | [d1, d2] => { results := [.lit (.bool true)], args := [d1, d2] }
  | _ => none }
def gaugesCreepRow : OpenClaim := { program := "yteodgliliglipaagreatdoor", sum := "f7b2d1e6c1b2650cd07dce3fc798da1e570579692b70eb5271a6c6e2a9669bad", func := "crimp/crimplaw40.GaugesCreep", spec := "gaugesCreep", unfollowed := true, recurses := true, named := ["crimp/cells.quarters", "crimp/moves.turns"], plainKeys := false, apart := false, laid := [("crimp/moves.turns", laid_crimp_moves_turns), ("crimp/cells.quarters", laid_crimp_cells_quarters)] }
def GaugesCreepSaid : Prop := gaugesCreepRow.holds Tryz.pinned (OpenSpec.ofChange gaugesCreepSpec)

/-- ITS FALSE NEIGHBOUR: 'it returns false'. Refute it at one input. -/
def gaugesCreepWrong : ChangeSpec := { name := "gaugesCreep", fn := fun _ => fun
  | [d1, d2] => { results := [.lit (.bool false)], args := [d1, d2] }
  | _ => none }
def GaugesCreepWrongFalsely : Prop := gaugesCreepRow.holds Tryz.pinned (OpenSpec.ofChange gaugesCreepWrong)

/-- 'crimplaw40.GaugesNested': WHATEVER THE INPUT: true; the input reads as it did. -/
def gaugesNestedSpec : ChangeSpec := { name := "gaugesNested", fn := fun _ => fun
  | [d1, d2, d3] => { results := [.lit (.bool true)], args := [d1, d2, d3] }
  | _ => none }
def gaugesNestedRow : OpenClaim := { program := "yteodgliliglipaagreatdoor", sum := "f7b2d1e6c1b2650cd07dce3fc798da1e570579692b70eb5271a6c6e2a9669bad", func := "crimp/crimplaw40.GaugesNested", spec := "gaugesNested", unfollowed := true, recurses := true, named := ["crimp/cells.quarters", "crimp/moves.turns"], plainKeys := false, apart := false, laid := [("crimp/moves.turns", laid_crimp_moves_turns), ("crimp/cells.quarters", laid_crimp_cells_quarters)] }
def GaugesNestedSaid : Prop := gaugesNestedRow.holds Tryz.pinned (OpenSpec.ofChange gaugesNestedSpec)

/-- ITS FALSE NEIGHBOUR: 'it returns false'. Refute it at one input. -/
def gaugesNestedWrong : ChangeSpec := { name := "gaugesNested", fn := fun _ => fun
  | [d1, d2, d3] => { results := [.lit (.bool false)], args := [d1, d2, d3] }
  | _ => none }
def GaugesNestedWrongFalsely : Prop := gaugesNestedRow.holds Tryz.pinned (OpenSpec.ofChange gaugesNestedWrong)

/- THE SECOND FORM. 'bulk': how many values and letters a reading holds, each counted each time it is reached (what is shared counts as often as it is met; a slice's spare places count too). A statement '..UptoSaid' is the law's where the arguments, and the package variables that the reading takes, are together of bulk at most 1048576: NARROWER than '..Said'. Prove '..Said' where nothing that the law and all that it calls make is longer than what came in: it says more and counts as full. Else prove '..UptoSaid'. A law counts once. -/
mutual
def uptoBulk {H : Type} : DataW H → Nat
  | .lit (.string bytes) => bytes.length + 1
  | .lit _ => 1
  | .nil => 1
  | .ptr d => uptoBulk d + 1
  | .slice elems spare => uptoBulkAll elems + uptoBulkAll spare + 1
  | .agg parts => uptoBulkAll parts + 1
  | .iface _ d => uptoBulk d + 1
  | .map entries => uptoBulkEntries entries + 1
  | .held _ => 1
def uptoBulkAll {H : Type} : List (DataW H) → Nat
  | [] => 0
  | d :: r => uptoBulk d + uptoBulkAll r
def uptoBulkEntries {H : Type} : List (Lit × DataW H) → Nat
  | [] => 0
  | x :: r => uptoBulkEntry x + uptoBulkEntries r
def uptoBulkEntry {H : Type} : Lit × DataW H → Nat
  | (.string bytes, d) => bytes.length + uptoBulk d + 1
  | (_, d) => uptoBulk d + 1
 end
def uptoSmall : (H : Type) → List (DataW H) → Bool := fun _ ds => decide (uptoBulkAll ds ≤ 1048576)
def OpenSpec.upto (s : _root_.Go.ChangeSpec) : _root_.Go.OpenSpec := { _root_.Go.OpenSpec.ofChange s with cond := some uptoSmall }

/-- 'crimplaw25.StatesFlat', WHERE WHAT IT READS IS OF BULK AT MOST 1048576: true; the input reads as it did. -/
def statesFlatUptoRow : OpenClaim := { program := "yteodgliliglipaagreatdoor", sum := "f7b2d1e6c1b2650cd07dce3fc798da1e570579692b70eb5271a6c6e2a9669bad", func := "crimp/crimplaw25.StatesFlat", spec := "statesFlat", unfollowed := true, recurses := true, named := ["crimp/cells.quarters", "crimp/moves.turns"], plainKeys := false, apart := false, laid := [("crimp/moves.turns", laid_crimp_moves_turns), ("crimp/cells.quarters", laid_crimp_cells_quarters)], narrowed := true }
def StatesFlatUptoSaid : Prop := statesFlatUptoRow.holds Tryz.pinned (OpenSpec.upto statesFlatSpec)

/-- 'crimplaw28.FoldsCompare', WHERE WHAT IT READS IS OF BULK AT MOST 1048576: true; the input reads as it did. -/
def foldsCompareUptoRow : OpenClaim := { program := "yteodgliliglipaagreatdoor", sum := "f7b2d1e6c1b2650cd07dce3fc798da1e570579692b70eb5271a6c6e2a9669bad", func := "crimp/crimplaw28.FoldsCompare", spec := "foldsCompare", unfollowed := true, recurses := true, named := ["crimp/cells.quarters", "crimp/moves.turns"], plainKeys := false, apart := false, laid := [("crimp/moves.turns", laid_crimp_moves_turns), ("crimp/cells.quarters", laid_crimp_cells_quarters)], narrowed := true }
def FoldsCompareUptoSaid : Prop := foldsCompareUptoRow.holds Tryz.pinned (OpenSpec.upto foldsCompareSpec)

/-- 'crimplaw29.TurnsCorner', WHERE WHAT IT READS IS OF BULK AT MOST 1048576: true; the input reads as it did. -/
def turnsCornerUptoRow : OpenClaim := { program := "yteodgliliglipaagreatdoor", sum := "f7b2d1e6c1b2650cd07dce3fc798da1e570579692b70eb5271a6c6e2a9669bad", func := "crimp/crimplaw29.TurnsCorner", spec := "turnsCorner", unfollowed := true, recurses := true, named := ["crimp/cells.quarters", "crimp/moves.turns"], plainKeys := false, apart := false, laid := [("crimp/moves.turns", laid_crimp_moves_turns), ("crimp/cells.quarters", laid_crimp_cells_quarters)], narrowed := true }
def TurnsCornerUptoSaid : Prop := turnsCornerUptoRow.holds Tryz.pinned (OpenSpec.upto turnsCornerSpec)

/-- 'crimplaw29.TurnsCheck', WHERE WHAT IT READS IS OF BULK AT MOST 1048576: true; the input reads as it did. -/
def turnsCheckUptoRow : OpenClaim := { program := "yteodgliliglipaagreatdoor", sum := "f7b2d1e6c1b2650cd07dce3fc798da1e570579692b70eb5271a6c6e2a9669bad", func := "crimp/crimplaw29.TurnsCheck", spec := "turnsCheck", unfollowed := true, recurses := true, named := ["crimp/cells.quarters", "crimp/moves.turns"], plainKeys := false, apart := false, laid := [("crimp/moves.turns", laid_crimp_moves_turns), ("crimp/cells.quarters", laid_crimp_cells_quarters)], narrowed := true }
def TurnsCheckUptoSaid : Prop := turnsCheckUptoRow.holds Tryz.pinned (OpenSpec.upto turnsCheckSpec)

/-- 'crimplaw40.GaugesBend', WHERE WHAT IT READS IS OF BULK AT MOST 1048576: true; the input reads as it did. -/
def gaugesBendUptoRow : OpenClaim := { program := "yteodgliliglipaagreatdoor", sum := "f7b2d1e6c1b2650cd07dce3fc798da1e570579692b70eb5271a6c6e2a9669bad", func := "crimp/crimplaw40.GaugesBend", spec := "gaugesBend", unfollowed := true, recurses := true, named := ["crimp/cells.quarters", "crimp/moves.turns"], plainKeys := false, apart := false, laid := [("crimp/moves.turns", laid_crimp_moves_turns), ("crimp/cells.quarters", laid_crimp_cells_quarters)], narrowed := true }
def GaugesBendUptoSaid : Prop := gaugesBendUptoRow.holds Tryz.pinned (OpenSpec.upto gaugesBendSpec)

/-- 'crimplaw40.GaugesCreep', WHERE WHAT IT READS IS OF BULK AT MOST 1048576: true; the input reads as it did. -/
def gaugesCreepUptoRow : OpenClaim := { program := "yteodgliliglipaagreatdoor", sum := "f7b2d1e6c1b2650cd07dce3fc798da1e570579692b70eb5271a6c6e2a9669bad", func := "crimp/crimplaw40.GaugesCreep", spec := "gaugesCreep", unfollowed := true, recurses := true, named := ["crimp/cells.quarters", "crimp/moves.turns"], plainKeys := false, apart := false, laid := [("crimp/moves.turns", laid_crimp_moves_turns), ("crimp/cells.quarters", laid_crimp_cells_quarters)], narrowed := true }
def GaugesCreepUptoSaid : Prop := gaugesCreepUptoRow.holds Tryz.pinned (OpenSpec.upto gaugesCreepSpec)

/-- 'crimplaw40.GaugesNested', WHERE WHAT IT READS IS OF BULK AT MOST 1048576: true; the input reads as it did. -/
def gaugesNestedUptoRow : OpenClaim := { program := "yteodgliliglipaagreatdoor", sum := "f7b2d1e6c1b2650cd07dce3fc798da1e570579692b70eb5271a6c6e2a9669bad", func := "crimp/crimplaw40.GaugesNested", spec := "gaugesNested", unfollowed := true, recurses := true, named := ["crimp/cells.quarters", "crimp/moves.turns"], plainKeys := false, apart := false, laid := [("crimp/moves.turns", laid_crimp_moves_turns), ("crimp/cells.quarters", laid_crimp_cells_quarters)], narrowed := true }
def GaugesNestedUptoSaid : Prop := gaugesNestedUptoRow.holds Tryz.pinned (OpenSpec.upto gaugesNestedSpec)

end Rows
end Go.Proofs.YteodgliliglipaaGreatDoor
