/-
  Parts of the proof: K15a. Conditions: none.
-/
import Derived.Test.YtdblhepcmjecgaaGreatDoorGdc3
import Derived.Test.YtdblhepcmjecgaaGreatDoorCards
import Derived.Test.YtdblhepcmjecgaaGreatDoorTie
import Derived.SevenTiedAt
set_option maxRecDepth 100000
set_option maxHeartbeats 40000000
namespace Go.Proofs.YtdblhepcmjecgaaGreatDoor.V
open Go Go.RowKit Go.ChangeShapes Go.WideShapes Go.ChangeAt
namespace GaugesCreases
theorem own:ownKnob Go.Proofs.Tryz.prog.godebug=none:=Du
theorem c12(os:Os)(args:Array Value):laidMetH Go.Proofs.Tryz.prog Rows.gaugesCreasesRow.laid ((World.doorLaid Go.Proofs.Tryz.prog 1000 os).forCall (fun _ _=>0) ⟨#[],args,[]⟩).memory:=
 laidMetH_of_parts3 (fuel:=8) (laidMet_of_run' 8 Du Du) Du Du
theorem k0:Rows.gaugesCreasesRow.wf (OpenSpec.ofChange Rows.gaugesCreasesSpec)=true:=Du
theorem k1:laidOutB Tryz.pinned.checked.prog=true:=Du
theorem k2:mapsRowed Tryz.pinned.checked.prog=true:=Du
theorem k3:Go.Proofs.Tryz.f4.params.all (Tryz.pinned.checked.prog.readableRec ·)=true:=Du
theorem k4:namedTie Tryz.pinned.checked.prog Rows.gaugesCreasesRow.named Rows.gaugesCreasesSpec.vars=true:=Du
theorem k5:(Rows.gaugesCreasesRow.stops==[])=true:=Du
theorem k6:(Tryz.pinned.checked.prog.stops==[])=true:=Du
theorem k7:(Rows.gaugesCreasesRow.knobs==[])=true:=Du
theorem k8:(Tryz.pinned.checked.prog.stopKnobs==[])=true:=Du
theorem k9:(Rows.gaugesCreasesRow.inPlace==Tryz.pinned.checked.prog.inPlace 4)=true:=Du
theorem k10:(Rows.gaugesCreasesRow.unfollowed==Tryz.pinned.checked.prog.unfollowed 4)=true:=Du
theorem k11:(Rows.gaugesCreasesRow.recurses==Tryz.pinned.checked.prog.recurses 4)=true:=Du
theorem k12:(Rows.gaugesCreasesRow.named==Tryz.pinned.checked.prog.varsNamed 4)=true:=Du
theorem k13:(Rows.gaugesCreasesRow.maps==(Go.Proofs.Tryz.f4.params.toList++Rows.gaugesCreasesSpec.plain.varTypes Tryz.pinned.checked.prog).any (Tryz.pinned.checked.prog.mapsRec ·))=true:=Du
theorem k14:(Rows.gaugesCreasesRow.ifaces==(Go.Proofs.Tryz.f4.params.toList++Rows.gaugesCreasesSpec.plain.varTypes Tryz.pinned.checked.prog).any (Tryz.pinned.checked.prog.ifacesRec ·))=true:=Du
theorem k15:(Rows.gaugesCreasesRow.mapsOut==Tryz.pinned.checked.prog.mapsAmong Go.Proofs.Tryz.f4.resultTypes.toList)=true:=Du
theorem k16:(Rows.gaugesCreasesRow.loops==(Go.Proofs.Tryz.f4.params.toList++Rows.gaugesCreasesSpec.plain.varTypes Tryz.pinned.checked.prog).any (Tryz.pinned.checked.prog.loopsFrom ·))=true:=Du
theorem k17:(Rows.gaugesCreasesRow.wideKeys==(Go.Proofs.Tryz.f4.params.toList++Rows.gaugesCreasesSpec.plain.varTypes Tryz.pinned.checked.prog++Go.Proofs.Tryz.f4.resultTypes.toList).any (Tryz.pinned.checked.prog.wideKeysFrom ·))=true:=Du
theorem k18:Rows.gaugesCreasesSpec.vars.all (Tryz.pinned.checked.prog.varReadable ·)=true:=Du
theorem k19:Go.Proofs.Tryz.f4.resultTypes.all (fun t=>Tryz.pinned.checked.prog.readableRec t&&decide (t<Tryz.pinned.checked.prog.types.size))=true:=Du
theorem k20:(Rows.gaugesCreasesRow.ifacesOut==Go.Proofs.Tryz.f4.resultTypes.toList.any (Tryz.pinned.checked.prog.ifacesRec ·))=true:=Du
theorem k21:(Rows.gaugesCreasesRow.loopsOut==Go.Proofs.Tryz.f4.resultTypes.toList.any (Tryz.pinned.checked.prog.loopsFrom ·))=true:=Du
theorem k22:(Rows.gaugesCreasesRow.plainKeys==Tryz.pinned.checked.prog.plainKeys)=true:=Du
theorem k23:Rows.gaugesCreasesRow.shortTexts.isNone=true:=Du
theorem k24:Tryz.pinned.checked.prog.stopsHeard=true:=Du
theorem k25:Tryz.pinned.checked.prog.mayEnter=true:=Du
theorem k26:(Rows.gaugesCreasesRow.lifted==Tryz.pinned.checked.prog.liftsFinal)=true:=Du
theorem k27:(Tryz.pinned.checked.prog.make==some Rows.gaugesCreasesRow.make)=true:=Du
theorem k28:(Rows.gaugesCreasesRow.kinds==(if Rows.gaugesCreasesRow.domain.isEmpty then []else Go.Proofs.Tryz.f4.params.toList.map fun t=>match Tryz.pinned.checked.prog.underlying t with|some (.int k)=>some k|_=>none))=true:=Du
theorem k29:(Rows.gaugesCreasesRow.pinned==Rows.gaugesCreasesRow.pinnedBy)=true:=Du
theorem k30:(Rows.gaugesCreasesRow.veiled==(Go.Proofs.Tryz.f4.params.toList++Rows.gaugesCreasesSpec.plain.varTypes Tryz.pinned.checked.prog++Go.Proofs.Tryz.f4.resultTypes.toList).any (Tryz.pinned.checked.prog.veiledRec ·))=true:=Du
theorem k31:Rows.gaugesCreasesRow.veiledFits Tryz.pinned.checked.prog Go.Proofs.Tryz.f4.params.toList (Go.Proofs.Tryz.f4.params.toList++Rows.gaugesCreasesSpec.plain.varTypes Tryz.pinned.checked.prog++Go.Proofs.Tryz.f4.resultTypes.toList)=true:=Du
theorem facts:joinedFacts Tryz.pinned.checked.prog 4 Go.Proofs.Tryz.f4 Rows.gaugesCreasesSpec Rows.gaugesCreasesRow=true:=by
 unfold joinedFacts
 simp only[Km]
 exact Cu
theorem inst:Func.isInstance Tryz.pinned.checked.prog Go.Proofs.Tryz.f4 Rows.gaugesCreasesRow.origin Rows.gaugesCreasesRow.targs:=K2 Du
theorem wrap:Func.isWrapper Tryz.pinned.checked.prog Go.Proofs.Tryz.f4 Rows.gaugesCreasesRow.wrapper Rows.gaugesCreasesRow.mainSum:=by
 unfold Func.isWrapper
 first|exact At
theorem nmd:Tryz.pinned.checked.prog.funcNamed Rows.gaugesCreasesRow.func=some 4:=Du
theorem plain(f:FuncId)(fn:Func)(hf:Go.Proofs.YtdblhepcmjecgaaGreatDoor.Tryz.pinned.checked.prog.funcNamed "crimp/crimplaw40.GaugesCreases" =some f)(tn:Go.Proofs.YtdblhepcmjecgaaGreatDoor.Tryz.pinned.checked.prog.funcs[f]?=some fn):
 false=Go.Proofs.YtdblhepcmjecgaaGreatDoor.Tryz.pinned.checked.prog.looks []∧∀(j:Nat) t,fn.params[j]?=some t→Go.Proofs.YtdblhepcmjecgaaGreatDoor.Tryz.pinned.checked.prog.wantsStandIn t=false:=by
 obtain rfl:f=4:=Jp ((show Go.Proofs.Tryz.prog.funcNamed "crimp/crimplaw40.GaugesCreases" =some 4 from Du).symm.trans hf) |>.symm
 obtain rfl:fn=Go.Proofs.Tryz.f4:=(Jp (Go.Proofs.Tryz.func4.symm.trans tn)).symm
 refine⟨Du,fun j t ht=> ?_⟩
 rw[Go.Proofs.Tryz.params4]at ht
 have hm:=Array.mem_of_getElem? ht
 have bt:(#[43].all fun u=> !Go.Proofs.Tryz.prog.wantsStandIn u)=true:=Du
 have:=Array.all_eq_true'.1 bt t hm
 exact Cv
end GaugesCreases
end Go.Proofs.YtdblhepcmjecgaaGreatDoor.V
