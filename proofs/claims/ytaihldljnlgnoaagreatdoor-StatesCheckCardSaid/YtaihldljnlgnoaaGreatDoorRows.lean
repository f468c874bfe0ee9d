/-
  NARROWER THAN 'FOR EVERY INPUT', by the rows' own cells (each row's printed sentence says how): StatesStacks: laid · StatesKinds: laid · StatesMove: laid · StatesFlip: laid · StatesCheck: laid · StatesMaekawa: laid.
  DERIVED. THE GIVEN ROWS OF THIS SEAT. 6 by the template 'for every input the law returns true; each argument reads behind the call as it read before'; 0 by the template 'total and deterministic' (their statements: YtaihldljnlgnoaaGreatDoorTotals.lean).
  GIVEN WITH THE SEED: the statements are not yours to turn. If you find one false, say at which input.
  Laid BY PROGRAM, IN A SANDBOX (cutbox-rows.mjs): the forced cells as the released guide's own fill.sh prints them over the translation b92c6e1dd22bee9a… (all of the seat's roots in one cut). By AI agents, Wed Nov 11 2026. No macro, syntax, notation, axiom, sorry.
-/
import Derived.Test.YtaihldljnlgnoaaGreatDoorChecked
import GoSem.Claim
import GoSem.ClaimJoined
import GoSem.ClaimMapViews
import Derived.JoinedTies
import Derived.KernelRfl
namespace Go.Proofs.YtaihldljnlgnoaaGreatDoor
/- THE CELL 'sum', in the pinned program and in every row, IS THE sha256 OF THE DUMP (.gsa) THAT YtaihldljnlgnoaaGreatDoorProg.lean LOADS. Nothing in Lean hashes anything: it is a label: what it is worth is what the hold of that sum in a sandbox is worth. -/
noncomputable def Tryz.pinned : Pinned := { name := "ytaihldljnlgnoaagreatdoor", sum := "b92c6e1dd22bee9ac301d9bde9513a8a217b2f3065ee38911ff862b2aa78c2ca", checked := Tryz.checked }
namespace Rows
def none {H : Type} : Left H := { results := [], args := [] }

/- WHAT THE LISTED PACKAGE-LEVEL VARIABLES READ AS WHEN THE CALL BEGINS. Each datum BY PROGRAM (the guide's laid-datum.mjs) off the statement by which the dump's own 'gosem.cut.vars' lays the variable. In a bare row this is a premise. The card (YtaihldljnlgnoaaGreatDoorCards.lean) ties it to the program's text. -/
def laid_crimp_moves_turns {H : Type} : DataW H := .agg [.agg [.lit (.int .i64 1), .lit (.int .i64 0), .lit (.int .i64 0), .lit (.int .i64 1)], .agg [.lit (.int .i64 0), .lit (.int .i64 (-1)), .lit (.int .i64 1), .lit (.int .i64 0)], .agg [.lit (.int .i64 (-1)), .lit (.int .i64 0), .lit (.int .i64 0), .lit (.int .i64 (-1))], .agg [.lit (.int .i64 0), .lit (.int .i64 1), .lit (.int .i64 (-1)), .lit (.int .i64 0)], .agg [.lit (.int .i64 (-1)), .lit (.int .i64 0), .lit (.int .i64 0), .lit (.int .i64 1)], .agg [.lit (.int .i64 0), .lit (.int .i64 (-1)), .lit (.int .i64 (-1)), .lit (.int .i64 0)], .agg [.lit (.int .i64 1), .lit (.int .i64 0), .lit (.int .i64 0), .lit (.int .i64 (-1))], .agg [.lit (.int .i64 0), .lit (.int .i64 1), .lit (.int .i64 1), .lit (.int .i64 0)]]
def laid_crimp_cells_quarters {H : Type} : DataW H := .agg [.agg [.agg [.lit (.int .i64 0), .lit (.int .i64 (-1))], .lit (.int .u8 2), .lit (.int .i64 0), .agg [.agg [.lit (.int .i64 0), .lit (.int .i64 (-1)), .lit (.int .u8 2)], .agg [.lit (.int .i64 0), .lit (.int .i64 0), .lit (.int .u8 1)], .agg [.lit (.int .i64 0), .lit (.int .i64 0), .lit (.int .u8 3)]], .agg [.lit (.int .i64 0), .lit (.int .i64 0)], .agg [.lit (.int .i64 2), .lit (.int .i64 0)]], .agg [.agg [.lit (.int .i64 1), .lit (.int .i64 0)], .lit (.int .u8 1), .lit (.int .i64 1), .agg [.agg [.lit (.int .i64 1), .lit (.int .i64 0), .lit (.int .u8 3)], .agg [.lit (.int .i64 0), .lit (.int .i64 0), .lit (.int .u8 0)], .agg [.lit (.int .i64 0), .lit (.int .i64 0), .lit (.int .u8 2)]], .agg [.lit (.int .i64 2), .lit (.int .i64 2)], .agg [.lit (.int .i64 2), .lit (.int .i64 0)]], .agg [.agg [.lit (.int .i64 0), .lit (.int .i64 1)], .lit (.int .u8 2), .lit (.int .i64 1), .agg [.agg [.lit (.int .i64 0), .lit (.int .i64 1), .lit (.int .u8 0)], .agg [.lit (.int .i64 0), .lit (.int .i64 0), .lit (.int .u8 3)], .agg [.lit (.int .i64 0), .lit (.int .i64 0), .lit (.int .u8 1)]], .agg [.lit (.int .i64 2), .lit (.int .i64 2)], .agg [.lit (.int .i64 0), .lit (.int .i64 2)]], .agg [.agg [.lit (.int .i64 (-1)), .lit (.int .i64 0)], .lit (.int .u8 1), .lit (.int .i64 0), .agg [.agg [.lit (.int .i64 (-1)), .lit (.int .i64 0), .lit (.int .u8 1)], .agg [.lit (.int .i64 0), .lit (.int .i64 0), .lit (.int .u8 2)], .agg [.lit (.int .i64 0), .lit (.int .i64 0), .lit (.int .u8 0)]], .agg [.lit (.int .i64 0), .lit (.int .i64 0)], .agg [.lit (.int .i64 0), .lit (.int .i64 2)]]]

/-- 'crimplaw25.StatesStacks': WHATEVER THE INPUT: true; the input reads as it did. -/
def statesStacksSpec : ChangeSpec := { name := "statesStacks", fn := fun _ => fun
  | [d1, d2, d3] => { results := [.lit (.bool true)], args := [d1, d2, d3] }
  | _ => none }
def statesStacksRow : OpenClaim := { program := "ytaihldljnlgnoaagreatdoor", sum := "b92c6e1dd22bee9ac301d9bde9513a8a217b2f3065ee38911ff862b2aa78c2ca", func := "crimp/crimplaw25.StatesStacks", spec := "statesStacks", unfollowed := true, recurses := true, named := ["crimp/cells.quarters", "crimp/moves.turns"], plainKeys := false, apart := false, laid := [("crimp/moves.turns", laid_crimp_moves_turns), ("crimp/cells.quarters", laid_crimp_cells_quarters)] }
def StatesStacksSaid : Prop := statesStacksRow.holds Tryz.pinned (OpenSpec.ofChange statesStacksSpec)

/-- ITS FALSE NEIGHBOUR: 'it returns false'. Refute it at one input. -/
def statesStacksWrong : ChangeSpec := { name := "statesStacks", fn := fun _ => fun
  | [d1, d2, d3] => { results := [.lit (.bool false)], args := [d1, d2, d3] }
  | _ => none }
def StatesStacksWrongFalsely : Prop := statesStacksRow.holds Tryz.pinned (OpenSpec.ofChange statesStacksWrong)

/-- 'crimplaw25.StatesKinds': WHATEVER THE INPUT: true; the input reads as it did. -/
def statesKindsSpec : ChangeSpec := { name := "statesKinds", fn := fun _ => fun
  | [d1, d2] => { results := [.lit (.bool true)], args := [d1, d2] }
  | _ => none }
def statesKindsRow : OpenClaim := { program := "ytaihldljnlgnoaagreatdoor", sum := "b92c6e1dd22bee9ac301d9bde9513a8a217b2f3065ee38911ff862b2aa78c2ca", func := "crimp/crimplaw25.StatesKinds", spec := "statesKinds", unfollowed := true, recurses := true, named := ["crimp/cells.quarters", "crimp/moves.turns"], plainKeys := false, apart := false, laid := [("crimp/moves.turns", laid_crimp_moves_turns), ("crimp/cells.quarters", laid_crimp_cells_quarters)] }
def StatesKindsSaid : Prop := statesKindsRow.holds Tryz.pinned (OpenSpec.ofChange statesKindsSpec)

/-- ITS FALSE NEIGHBOUR: 'it returns false'. Refute it at one input. -/
def statesKindsWrong : ChangeSpec := { name := "statesKinds", fn := fun _ => fun
  | [d1, d2] => { results := [.lit (.bool false)], args := [d1, d2] }
  | _ => none }
def StatesKindsWrongFalsely : Prop := statesKindsRow.holds Tryz.pinned (OpenSpec.ofChange statesKindsWrong)

/-- 'crimplaw25.StatesMove': WHATEVER THE INPUT: true; the input reads as it did. -/
def statesMoveSpec : ChangeSpec := { name := "statesMove", fn := fun _ => fun
  | [d1, d2] => { results := [.lit (.bool true)], args := [d1, d2] }
  | _ => none }
def statesMoveRow : OpenClaim := { program := "ytaihldljnlgnoaagreatdoor", sum := "b92c6e1dd22bee9ac301d9bde9513a8a217b2f3065ee38911ff862b2aa78c2ca", func := "crimp/crimplaw25.StatesMove", spec := "statesMove", unfollowed := true, recurses := true, named := ["crimp/cells.quarters", "crimp/moves.turns"], plainKeys := false, apart := false, laid := [("crimp/moves.turns", laid_crimp_moves_turns), ("crimp/cells.quarters", laid_crimp_cells_quarters)] }
def StatesMoveSaid : Prop := statesMoveRow.holds Tryz.pinned (OpenSpec.ofChange statesMoveSpec)

/-- ITS FALSE NEIGHBOUR: 'it returns false'. Refute it at one input. -/
def statesMoveWrong : ChangeSpec := { name := "statesMove", fn := fun _ => fun
  | [d1, d2] => { results := [.lit (.bool false)], args := [d1, d2] }
  | _ => none }
def StatesMoveWrongFalsely : Prop := statesMoveRow.holds Tryz.pinned (OpenSpec.ofChange statesMoveWrong)

/-- 'crimplaw25.StatesFlip': WHATEVER THE INPUT: true; the input reads as it did. -/
def statesFlipSpec : ChangeSpec := { name := "statesFlip", fn := fun _ => fun
  | [d1, d2, d3] => { results := [.lit (.bool true)], args := [d1, d2, d3] }
  | _ => none }
def statesFlipRow : OpenClaim := { program := "ytaihldljnlgnoaagreatdoor", sum := "b92c6e1dd22bee9ac301d9bde9513a8a217b2f3065ee38911ff862b2aa78c2ca", func := "crimp/crimplaw25.StatesFlip", spec := "statesFlip", unfollowed := true, recurses := true, named := ["crimp/cells.quarters", "crimp/moves.turns"], plainKeys := false, apart := false, laid := [("crimp/moves.turns", laid_crimp_moves_turns), ("crimp/cells.quarters", laid_crimp_cells_quarters)] }
def StatesFlipSaid : Prop := statesFlipRow.holds Tryz.pinned (OpenSpec.ofChange statesFlipSpec)

/-- ITS FALSE NEIGHBOUR: 'it returns false'. Refute it at one input. -/
def statesFlipWrong : ChangeSpec := { name := "statesFlip", fn := fun _ => fun
  | [d1, d2, d3] => { results := [.lit (.bool false)], args := [d1, d2, d3] }
  | _ => none }
def StatesFlipWrongFalsely : Prop := statesFlipRow.holds Tryz.pinned (OpenSpec.ofChange statesFlipWrong)

/-- 'crimplaw25.StatesCheck': WHATEVER THE INPUT: true; the input reads as it did. -/
def statesCheckSpec : ChangeSpec := { name := "statesCheck", fn := fun _ => fun
  | [d1, d2] => { results := [.lit (.bool true)], args := [d1, d2] }
  | _ => none }
def statesCheckRow : OpenClaim := { program := "ytaihldljnlgnoaagreatdoor", sum := "b92c6e1dd22bee9ac301d9bde9513a8a217b2f3065ee38911ff862b2aa78c2ca", func := "crimp/crimplaw25.StatesCheck", spec := "statesCheck", unfollowed := true, recurses := true, named := ["crimp/cells.quarters", "crimp/moves.turns"], plainKeys := false, apart := false, laid := [("crimp/moves.turns", laid_crimp_moves_turns), ("crimp/cells.quarters", laid_crimp_cells_quarters)] }
def StatesCheckSaid : Prop := statesCheckRow.holds Tryz.pinned (OpenSpec.ofChange statesCheckSpec)

/-- ITS FALSE NEIGHBOUR: 'it returns false'. Refute it at one input. -/
def statesCheckWrong : ChangeSpec := { name := "statesCheck", fn := fun _ => fun
  | [d1, d2] => { results := [.lit (.bool false)], args := [d1, d2] }
  | _ => none }
def StatesCheckWrongFalsely : Prop := statesCheckRow.holds Tryz.pinned (OpenSpec.ofChange statesCheckWrong)

/-- 'crimplaw25.StatesMaekawa': WHATEVER THE INPUT: true; the input reads as it did. -/
def statesMaekawaSpec : ChangeSpec := { name := "statesMaekawa", fn := fun _ => fun
  | [d] => { results := [.lit (.bool true)], args := [d] }
  | _ => none }
def statesMaekawaRow : OpenClaim := { program := "ytaihldljnlgnoaagreatdoor", sum := "b92c6e1dd22bee9ac301d9bde9513a8a217b2f3065ee38911ff862b2aa78c2ca", func := "crimp/crimplaw25.StatesMaekawa", spec := "statesMaekawa", unfollowed := true, recurses := true, named := ["crimp/cells.quarters", "crimp/moves.turns"], plainKeys := false, apart := false, laid := [("crimp/moves.turns", laid_crimp_moves_turns), ("crimp/cells.quarters", laid_crimp_cells_quarters)] }
def StatesMaekawaSaid : Prop := statesMaekawaRow.holds Tryz.pinned (OpenSpec.ofChange statesMaekawaSpec)

/-- ITS FALSE NEIGHBOUR: 'it returns false'. Refute it at one input. -/
def statesMaekawaWrong : ChangeSpec := { name := "statesMaekawa", fn := fun _ => fun
  | [d] => { results := [.lit (.bool false)], args := [d] }
  | _ => none }
def StatesMaekawaWrongFalsely : Prop := statesMaekawaRow.holds Tryz.pinned (OpenSpec.ofChange statesMaekawaWrong)

/- THE SECOND FORM. 'bulk': how many values and letters a reading holds, each counted each time it is reached (what is shared counts as often as it is met; a slice's spare places count too). A statement '..UptoSaid' is the law's where the arguments, and the package variables that the reading takes, are together of bulk at most 1048576: NARROWER than '..Said'. Prove '..Said' where nothing that the law and all that it calls make is longer than what came in: it says more and counts as full. Else prove '..UptoSaid'. A law counts once. -/
mutual
def uptoBulk {H : Type} : DataW H → Nat
  | .lit (.string bytes) => bytes.length + 1
  | .lit _ => 1
  | .nil => 1
  | .ptr d => uptoBulk d + 1
  | .slice elems spare => uptoBulkAll elems + uptoBulkAll spare + 1
  | .agg parts => uptoBulkAll parts + 1
  | .iface _ d => uptoBulk d + 1
  | .map entries => uptoBulkEntries entries + 1
  | .held _ => 1
def uptoBulkAll {H : Type} : List (DataW H) → Nat
  | [] => 0
  | d :: r => uptoBulk d + uptoBulkAll r
def uptoBulkEntries {H : Type} : List (Lit × DataW H) → Nat
  | [] => 0
  | x :: r => uptoBulkEntry x + uptoBulkEntries r
def uptoBulkEntry {H : Type} : Lit × DataW H → Nat
  | (.string bytes, d) => bytes.length + uptoBulk d + 1
  | (_, d) => uptoBulk d + 1
 end
def uptoSmall : (H : Type) → List (DataW H) → Bool := fun _ ds => decide (uptoBulkAll ds ≤ 1048576)
def OpenSpec.upto (s : _root_.Go.ChangeSpec) : _root_.Go.OpenSpec := { _root_.Go.OpenSpec.ofChange s with cond := some uptoSmall }

/-- 'crimplaw25.StatesStacks', WHERE WHAT IT READS IS OF BULK AT MOST 1048576: true; the input reads as it did. -/
def statesStacksUptoRow : OpenClaim := { program := "ytaihldljnlgnoaagreatdoor", sum := "b92c6e1dd22bee9ac301d9bde9513a8a217b2f3065ee38911ff862b2aa78c2ca", func := "crimp/crimplaw25.StatesStacks", spec := "statesStacks", unfollowed := true, recurses := true, named := ["crimp/cells.quarters", "crimp/moves.turns"], plainKeys := false, apart := false, laid := [("crimp/moves.turns", laid_crimp_moves_turns), ("crimp/cells.quarters", laid_crimp_cells_quarters)], narrowed := true }
def StatesStacksUptoSaid : Prop := statesStacksUptoRow.holds Tryz.pinned (OpenSpec.upto statesStacksSpec)

/-- 'crimplaw25.StatesKinds', WHERE WHAT IT READS IS OF BULK AT MOST 1048576: true; the input reads as it did. -/
def statesKindsUptoRow : OpenClaim := { program := "ytaihldljnlgnoaagreatdoor", sum := "b92c6e1dd22bee9ac301d9bde9513a8a217b2f3065ee38911ff862b2aa78c2ca", func := "crimp/crimplaw25.StatesKinds", spec := "statesKinds", unfollowed := true, recurses := true, named := ["crimp/cells.quarters", "crimp/moves.turns"], plainKeys := false, apart := false, laid := [("crimp/moves.turns", laid_crimp_moves_turns), ("crimp/cells.quarters", laid_crimp_cells_quarters)], narrowed := true }
def StatesKindsUptoSaid : Prop := statesKindsUptoRow.holds Tryz.pinned (OpenSpec.upto statesKindsSpec)

/-- 'crimplaw25.StatesMove', WHERE WHAT IT READS IS OF BULK AT MOST 1048576: true; the input reads as it did. -/
def statesMoveUptoRow : OpenClaim := { program := "ytaihldljnlgnoaagreatdoor", sum := "b92c6e1dd22bee9ac301d9bde9513a8a217b2f3065ee38911ff862b2aa78c2ca", func := "crimp/crimplaw25.StatesMove", spec := "statesMove", unfollowed := true, recurses := true, named := ["crimp/cells.quarters", "crimp/moves.turns"], plainKeys := false, apart := false, laid := [("crimp/moves.turns", laid_crimp_moves_turns), ("crimp/cells.quarters", laid_crimp_cells_quarters)], narrowed := true }
def StatesMoveUptoSaid : Prop := statesMoveUptoRow.holds Tryz.pinned (OpenSpec.upto statesMoveSpec)

/-- 'crimplaw25.StatesFlip', WHERE WHAT IT READS IS OF BULK AT MOST 1048576: true; the input reads as it did. -/
def statesFlipUptoRow : OpenClaim := { program := "ytaihldljnlgnoaagreatdoor", sum := "b92c6e1dd22bee9ac301d9bde9513a8a217b2f3065ee38911ff862b2aa78c2ca", func := "crimp/crimplaw25.StatesFlip", spec := "statesFlip", unfollowed := true, recurses := true, named := ["crimp/cells.quarters", "crimp/moves.turns"], plainKeys := false, apart := false, laid := [("crimp/moves.turns", laid_crimp_moves_turns), ("crimp/cells.quarters", laid_crimp_cells_quarters)], narrowed := true }
def StatesFlipUptoSaid : Prop := statesFlipUptoRow.holds Tryz.pinned (OpenSpec.upto statesFlipSpec)

/-- 'crimplaw25.StatesCheck', WHERE WHAT IT READS IS OF BULK AT MOST 1048576: true; the input reads as it did. -/
def statesCheckUptoRow : OpenClaim := { program := "ytaihldljnlgnoaagreatdoor", sum := "b92c6e1dd22bee9ac301d9bde9513a8a217b2f3065ee38911ff862b2aa78c2ca", func := "crimp/crimplaw25.StatesCheck", spec := "statesCheck", unfollowed := true, recurses := true, named := ["crimp/cells.quarters", "crimp/moves.turns"], plainKeys := false, apart := false, laid := [("crimp/moves.turns", laid_crimp_moves_turns), ("crimp/cells.quarters", laid_crimp_cells_quarters)], narrowed := true }
def StatesCheckUptoSaid : Prop := statesCheckUptoRow.holds Tryz.pinned (OpenSpec.upto statesCheckSpec)

/-- 'crimplaw25.StatesMaekawa', WHERE WHAT IT READS IS OF BULK AT MOST 1048576: true; the input reads as it did. -/
def statesMaekawaUptoRow : OpenClaim := { program := "ytaihldljnlgnoaagreatdoor", sum := "b92c6e1dd22bee9ac301d9bde9513a8a217b2f3065ee38911ff862b2aa78c2ca", func := "crimp/crimplaw25.StatesMaekawa", spec := "statesMaekawa", unfollowed := true, recurses := true, named := ["crimp/cells.quarters", "crimp/moves.turns"], plainKeys := false, apart := false, laid := [("crimp/moves.turns", laid_crimp_moves_turns), ("crimp/cells.quarters", laid_crimp_cells_quarters)], narrowed := true }
def StatesMaekawaUptoSaid : Prop := statesMaekawaUptoRow.holds Tryz.pinned (OpenSpec.upto statesMaekawaSpec)

end Rows
end Go.Proofs.YtaihldljnlgnoaaGreatDoor
