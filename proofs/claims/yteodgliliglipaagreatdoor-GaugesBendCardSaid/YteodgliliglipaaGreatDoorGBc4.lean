/-
  Parts of the proof: K10a. Conditions: none.
-/
import Derived.Test.YteodgliliglipaaGreatDoorGBc3
import Derived.Test.YteodgliliglipaaGreatDoorCards
import Derived.Test.YteodgliliglipaaGreatDoorTie
import Derived.SevenTiedAt
namespace Go.Proofs.YteodgliliglipaaGreatDoor.V
open Go Go.RowKit Go.ChangeShapes Go.WideShapes Go.ChangeAt
namespace GaugesBend
theorem own : ownKnob Go.Proofs.Tryz.prog.godebug = none := by kernel_rfl
theorem door_met (os : Os) (args : Array Value) : laidMetH Go.Proofs.Tryz.prog Rows.gaugesBendRow.laid ((World.doorLaid Go.Proofs.Tryz.prog 1000 os).forCall (fun _ _ => 0) ⟨#[], args, []⟩).memory :=
 laidMetH_of_parts3 (fuel := 8) (laidMet_of_run' 8 (by kernel_rfl) (by kernel_rfl)) (by kernel_rfl) (by kernel_rfl)
set_option maxRecDepth 100000
theorem k0 : Rows.gaugesBendRow.wf (OpenSpec.ofChange Rows.gaugesBendSpec) = true := by kernel_rfl
theorem k1 : laidOutB Tryz.pinned.checked.prog = true := by kernel_rfl
theorem k2 : mapsRowed Tryz.pinned.checked.prog = true := by kernel_rfl
theorem k3 : Go.Proofs.Tryz.f7.params.all (Tryz.pinned.checked.prog.readableRec ·) = true := by kernel_rfl
theorem k4 : namedTie Tryz.pinned.checked.prog Rows.gaugesBendRow.named Rows.gaugesBendSpec.vars = true := by kernel_rfl
theorem k5 : (Rows.gaugesBendRow.stops == []) = true := by kernel_rfl
theorem k6 : (Tryz.pinned.checked.prog.stops == []) = true := by kernel_rfl
theorem k7 : (Rows.gaugesBendRow.knobs == []) = true := by kernel_rfl
theorem k8 : (Tryz.pinned.checked.prog.stopKnobs == []) = true := by kernel_rfl
theorem k9 : (Rows.gaugesBendRow.inPlace == Tryz.pinned.checked.prog.inPlace 7) = true := by kernel_rfl
theorem k10 : (Rows.gaugesBendRow.unfollowed == Tryz.pinned.checked.prog.unfollowed 7) = true := by kernel_rfl
theorem k11 : (Rows.gaugesBendRow.recurses == Tryz.pinned.checked.prog.recurses 7) = true := by kernel_rfl
theorem k12 : (Rows.gaugesBendRow.named == Tryz.pinned.checked.prog.varsNamed 7) = true := by kernel_rfl
theorem k13 : (Rows.gaugesBendRow.maps == (Go.Proofs.Tryz.f7.params.toList ++ Rows.gaugesBendSpec.plain.varTypes Tryz.pinned.checked.prog).any (Tryz.pinned.checked.prog.mapsRec ·)) = true := by kernel_rfl
theorem k14 : (Rows.gaugesBendRow.ifaces == (Go.Proofs.Tryz.f7.params.toList ++ Rows.gaugesBendSpec.plain.varTypes Tryz.pinned.checked.prog).any (Tryz.pinned.checked.prog.ifacesRec ·)) = true := by kernel_rfl
theorem k15 : (Rows.gaugesBendRow.mapsOut == Tryz.pinned.checked.prog.mapsAmong Go.Proofs.Tryz.f7.resultTypes.toList) = true := by kernel_rfl
theorem k16 : (Rows.gaugesBendRow.loops == (Go.Proofs.Tryz.f7.params.toList ++ Rows.gaugesBendSpec.plain.varTypes Tryz.pinned.checked.prog).any (Tryz.pinned.checked.prog.loopsFrom ·)) = true := by kernel_rfl
theorem k17 : (Rows.gaugesBendRow.wideKeys == (Go.Proofs.Tryz.f7.params.toList ++ Rows.gaugesBendSpec.plain.varTypes Tryz.pinned.checked.prog ++ Go.Proofs.Tryz.f7.resultTypes.toList).any (Tryz.pinned.checked.prog.wideKeysFrom ·)) = true := by kernel_rfl
theorem k18 : Rows.gaugesBendSpec.vars.all (Tryz.pinned.checked.prog.varReadable ·) = true := by kernel_rfl
theorem k19 : Go.Proofs.Tryz.f7.resultTypes.all (fun t => Tryz.pinned.checked.prog.readableRec t && decide (t < Tryz.pinned.checked.prog.types.size)) = true := by kernel_rfl
theorem k20 : (Rows.gaugesBendRow.ifacesOut == Go.Proofs.Tryz.f7.resultTypes.toList.any (Tryz.pinned.checked.prog.ifacesRec ·)) = true := by kernel_rfl
theorem k21 : (Rows.gaugesBendRow.loopsOut == Go.Proofs.Tryz.f7.resultTypes.toList.any (Tryz.pinned.checked.prog.loopsFrom ·)) = true := by kernel_rfl
theorem k22 : (Rows.gaugesBendRow.plainKeys == Tryz.pinned.checked.prog.plainKeys) = true := by kernel_rfl
theorem k23 : Rows.gaugesBendRow.shortTexts.isNone = true := by kernel_rfl
theorem k24 : Tryz.pinned.checked.prog.stopsHeard = true := by kernel_rfl
theorem k25 : Tryz.pinned.checked.prog.mayEnter = true := by kernel_rfl
theorem k26 : (Rows.gaugesBendRow.lifted == Tryz.pinned.checked.prog.liftsFinal) = true := by kernel_rfl
theorem k27 : (Tryz.pinned.checked.prog.make == some Rows.gaugesBendRow.make) = true := by kernel_rfl
theorem k28 : (Rows.gaugesBendRow.kinds == (if Rows.gaugesBendRow.domain.isEmpty then [] else Go.Proofs.Tryz.f7.params.toList.map fun t => match Tryz.pinned.checked.prog.underlying t with | some (.int k) => some k | _ => none)) = true := by kernel_rfl
theorem k29 : (Rows.gaugesBendRow.pinned == Rows.gaugesBendRow.pinnedBy) = true := by kernel_rfl
theorem k30 : (Rows.gaugesBendRow.veiled == (Go.Proofs.Tryz.f7.params.toList ++ Rows.gaugesBendSpec.plain.varTypes Tryz.pinned.checked.prog ++ Go.Proofs.Tryz.f7.resultTypes.toList).any (Tryz.pinned.checked.prog.veiledRec ·)) = true := by kernel_rfl
theorem k31 : Rows.gaugesBendRow.veiledFits Tryz.pinned.checked.prog Go.Proofs.Tryz.f7.params.toList (Go.Proofs.Tryz.f7.params.toList ++ Rows.gaugesBendSpec.plain.varTypes Tryz.pinned.checked.prog ++ Go.Proofs.Tryz.f7.resultTypes.toList) = true := by kernel_rfl
theorem facts : joinedFacts Tryz.pinned.checked.prog 7 Go.Proofs.Tryz.f7 Rows.gaugesBendSpec Rows.gaugesBendRow = true := by
 unfold joinedFacts
 simp only [Bool.and_eq_true]
 exact ⟨⟨⟨⟨⟨⟨⟨⟨⟨⟨⟨⟨⟨⟨⟨⟨⟨⟨⟨⟨⟨⟨⟨⟨⟨⟨⟨⟨⟨⟨⟨k0, k1⟩, k2⟩, k3⟩, k4⟩, k5⟩, k6⟩, k7⟩, k8⟩, k9⟩, k10⟩, k11⟩, k12⟩, k13⟩, k14⟩, k15⟩, k16⟩, k17⟩, k18⟩, k19⟩, k20⟩, k21⟩, k22⟩, k23⟩, k24⟩, k25⟩, k26⟩, k27⟩, k28⟩, k29⟩, k30⟩, k31⟩
theorem inst : Func.isInstance Tryz.pinned.checked.prog Go.Proofs.Tryz.f7 Rows.gaugesBendRow.origin Rows.gaugesBendRow.targs := of_decide_eq_true (by kernel_rfl)
theorem wrap : Func.isWrapper Tryz.pinned.checked.prog Go.Proofs.Tryz.f7 Rows.gaugesBendRow.wrapper Rows.gaugesBendRow.mainSum := by
 unfold Func.isWrapper
 first | (rw [if_pos (by decide +kernel)]; kernel_rfl) | (rw [if_neg (by decide +kernel)]; exact ⟨rfl, rfl⟩)
theorem nmd : Tryz.pinned.checked.prog.funcNamed Rows.gaugesBendRow.func = some 7 := by kernel_rfl
set_option maxRecDepth 100000 in
theorem plain (f : FuncId) (fn : Func) (hf : Go.Proofs.YteodgliliglipaaGreatDoor.Tryz.pinned.checked.prog.funcNamed "crimp/crimplaw40.GaugesBend" = some f) (hfn : Go.Proofs.YteodgliliglipaaGreatDoor.Tryz.pinned.checked.prog.funcs[f]? = some fn) :
  false = Go.Proofs.YteodgliliglipaaGreatDoor.Tryz.pinned.checked.prog.looks [] ∧ ∀ (j : Nat) t, fn.params[j]? = some t → Go.Proofs.YteodgliliglipaaGreatDoor.Tryz.pinned.checked.prog.wantsStandIn t = false := by
 obtain rfl : f = 7 := Option.some.inj ((show Go.Proofs.Tryz.prog.funcNamed "crimp/crimplaw40.GaugesBend" = some 7 by kernel_rfl).symm.trans hf) |>.symm
 obtain rfl : fn = Go.Proofs.Tryz.f7 := (Option.some.inj (Go.Proofs.Tryz.func7.symm.trans hfn)).symm
 refine ⟨by kernel_rfl, fun j t ht => ?_⟩
 rw [Go.Proofs.Tryz.params7] at ht
 have hm := Array.mem_of_getElem? ht
 have hall : (#[69, 3].all fun u => !Go.Proofs.Tryz.prog.wantsStandIn u) = true := by kernel_rfl
 have := Array.all_eq_true'.1 hall t hm
 exact (show Go.Proofs.Tryz.prog.wantsStandIn t = false by simpa using this)
end GaugesBend
end Go.Proofs.YteodgliliglipaaGreatDoor.V
