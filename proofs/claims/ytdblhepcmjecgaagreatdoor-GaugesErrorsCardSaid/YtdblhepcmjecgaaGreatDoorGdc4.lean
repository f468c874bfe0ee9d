/-
  Parts of the proof: K13a. Conditions: none.
-/
import Derived.Test.YtdblhepcmjecgaaGreatDoorGdc3
import Derived.Test.YtdblhepcmjecgaaGreatDoorCards
import Derived.Test.YtdblhepcmjecgaaGreatDoorTie
import Derived.SevenTiedAt
set_option maxRecDepth 100000
set_option maxHeartbeats 40000000
namespace Go.Proofs.YtdblhepcmjecgaaGreatDoor.V
open Go Go.RowKit Go.ChangeShapes Go.WideShapes Go.ChangeAt
namespace GaugesErrors
theorem own:ownKnob Go.Proofs.Tryz.prog.godebug=none:=Du
theorem c12(os:Os)(args:Array Value):laidMetH Go.Proofs.Tryz.prog Rows.gaugesErrorsRow.laid ((World.doorLaid Go.Proofs.Tryz.prog 1000 os).forCall (fun _ _=>0) ⟨#[],args,[]⟩).memory:=
 laidMetH_of_parts3 (fuel:=8) (laidMet_of_run' 8 Du Du) Du Du
theorem k0:Rows.gaugesErrorsRow.wf (OpenSpec.ofChange Rows.gaugesErrorsSpec)=true:=Du
theorem k1:laidOutB Tryz.pinned.checked.prog=true:=Du
theorem k2:mapsRowed Tryz.pinned.checked.prog=true:=Du
theorem k3:Go.Proofs.Tryz.f6.params.all (Tryz.pinned.checked.prog.readableRec ·)=true:=Du
theorem k4:namedTie Tryz.pinned.checked.prog Rows.gaugesErrorsRow.named Rows.gaugesErrorsSpec.vars=true:=Du
theorem k5:(Rows.gaugesErrorsRow.stops==[])=true:=Du
theorem k6:(Tryz.pinned.checked.prog.stops==[])=true:=Du
theorem k7:(Rows.gaugesErrorsRow.knobs==[])=true:=Du
theorem k8:(Tryz.pinned.checked.prog.stopKnobs==[])=true:=Du
theorem k9:(Rows.gaugesErrorsRow.inPlace==Tryz.pinned.checked.prog.inPlace 6)=true:=Du
theorem k10:(Rows.gaugesErrorsRow.unfollowed==Tryz.pinned.checked.prog.unfollowed 6)=true:=Du
theorem k11:(Rows.gaugesErrorsRow.recurses==Tryz.pinned.checked.prog.recurses 6)=true:=Du
theorem k12:(Rows.gaugesErrorsRow.named==Tryz.pinned.checked.prog.varsNamed 6)=true:=Du
theorem k13:(Rows.gaugesErrorsRow.maps==(Go.Proofs.Tryz.f6.params.toList++Rows.gaugesErrorsSpec.plain.varTypes Tryz.pinned.checked.prog).any (Tryz.pinned.checked.prog.mapsRec ·))=true:=Du
theorem k14:(Rows.gaugesErrorsRow.ifaces==(Go.Proofs.Tryz.f6.params.toList++Rows.gaugesErrorsSpec.plain.varTypes Tryz.pinned.checked.prog).any (Tryz.pinned.checked.prog.ifacesRec ·))=true:=Du
theorem k15:(Rows.gaugesErrorsRow.mapsOut==Tryz.pinned.checked.prog.mapsAmong Go.Proofs.Tryz.f6.resultTypes.toList)=true:=Du
theorem k16:(Rows.gaugesErrorsRow.loops==(Go.Proofs.Tryz.f6.params.toList++Rows.gaugesErrorsSpec.plain.varTypes Tryz.pinned.checked.prog).any (Tryz.pinned.checked.prog.loopsFrom ·))=true:=Du
theorem k17:(Rows.gaugesErrorsRow.wideKeys==(Go.Proofs.Tryz.f6.params.toList++Rows.gaugesErrorsSpec.plain.varTypes Tryz.pinned.checked.prog++Go.Proofs.Tryz.f6.resultTypes.toList).any (Tryz.pinned.checked.prog.wideKeysFrom ·))=true:=Du
theorem k18:Rows.gaugesErrorsSpec.vars.all (Tryz.pinned.checked.prog.varReadable ·)=true:=Du
theorem k19:Go.Proofs.Tryz.f6.resultTypes.all (fun t=>Tryz.pinned.checked.prog.readableRec t&&decide (t<Tryz.pinned.checked.prog.types.size))=true:=Du
theorem k20:(Rows.gaugesErrorsRow.ifacesOut==Go.Proofs.Tryz.f6.resultTypes.toList.any (Tryz.pinned.checked.prog.ifacesRec ·))=true:=Du
theorem k21:(Rows.gaugesErrorsRow.loopsOut==Go.Proofs.Tryz.f6.resultTypes.toList.any (Tryz.pinned.checked.prog.loopsFrom ·))=true:=Du
theorem k22:(Rows.gaugesErrorsRow.plainKeys==Tryz.pinned.checked.prog.plainKeys)=true:=Du
theorem k23:Rows.gaugesErrorsRow.shortTexts.isNone=true:=Du
theorem k24:Tryz.pinned.checked.prog.stopsHeard=true:=Du
theorem k25:Tryz.pinned.checked.prog.mayEnter=true:=Du
theorem k26:(Rows.gaugesErrorsRow.lifted==Tryz.pinned.checked.prog.liftsFinal)=true:=Du
theorem k27:(Tryz.pinned.checked.prog.make==some Rows.gaugesErrorsRow.make)=true:=Du
theorem k28:(Rows.gaugesErrorsRow.kinds==(if Rows.gaugesErrorsRow.domain.isEmpty then []else Go.Proofs.Tryz.f6.params.toList.map fun t=>match Tryz.pinned.checked.prog.underlying t with|some (.int k)=>some k|_=>none))=true:=Du
theorem k29:(Rows.gaugesErrorsRow.pinned==Rows.gaugesErrorsRow.pinnedBy)=true:=Du
theorem k30:(Rows.gaugesErrorsRow.veiled==(Go.Proofs.Tryz.f6.params.toList++Rows.gaugesErrorsSpec.plain.varTypes Tryz.pinned.checked.prog++Go.Proofs.Tryz.f6.resultTypes.toList).any (Tryz.pinned.checked.prog.veiledRec ·))=true:=Du
theorem k31:Rows.gaugesErrorsRow.veiledFits Tryz.pinned.checked.prog Go.Proofs.Tryz.f6.params.toList (Go.Proofs.Tryz.f6.params.toList++Rows.gaugesErrorsSpec.plain.varTypes Tryz.pinned.checked.prog++Go.Proofs.Tryz.f6.resultTypes.toList)=true:=Du
theorem facts:joinedFacts Tryz.pinned.checked.prog 6 Go.Proofs.Tryz.f6 Rows.gaugesErrorsSpec Rows.gaugesErrorsRow=true:=by
 unfold joinedFacts
 simp only[Km]
 exact Cu
theorem inst:Func.isInstance Tryz.pinned.checked.prog Go.Proofs.Tryz.f6 Rows.gaugesErrorsRow.origin Rows.gaugesErrorsRow.targs:=K2 Du
theorem wrap:Func.isWrapper Tryz.pinned.checked.prog Go.Proofs.Tryz.f6 Rows.gaugesErrorsRow.wrapper Rows.gaugesErrorsRow.mainSum:=by
 unfold Func.isWrapper
 first|exact At
theorem nmd:Tryz.pinned.checked.prog.funcNamed Rows.gaugesErrorsRow.func=some 6:=Du
theorem plain(f:FuncId)(fn:Func)(hf:Go.Proofs.YtdblhepcmjecgaaGreatDoor.Tryz.pinned.checked.prog.funcNamed "crimp/crimplaw40.GaugesErrors" =some f)(tn:Go.Proofs.YtdblhepcmjecgaaGreatDoor.Tryz.pinned.checked.prog.funcs[f]?=some fn):
 false=Go.Proofs.YtdblhepcmjecgaaGreatDoor.Tryz.pinned.checked.prog.looks []∧∀(j:Nat) t,fn.params[j]?=some t→Go.Proofs.YtdblhepcmjecgaaGreatDoor.Tryz.pinned.checked.prog.wantsStandIn t=false:=by
 obtain rfl:f=6:=Jp ((show Go.Proofs.Tryz.prog.funcNamed "crimp/crimplaw40.GaugesErrors" =some 6 from Du).symm.trans hf) |>.symm
 obtain rfl:fn=Go.Proofs.Tryz.f6:=(Jp (Go.Proofs.Tryz.func6.symm.trans tn)).symm
 refine⟨Du,fun j t ht=> ?_⟩
 rw[Go.Proofs.Tryz.params6]at ht
 have hm:=Array.mem_of_getElem? ht
 have bt:(#[43,65,4].all fun u=> !Go.Proofs.Tryz.prog.wantsStandIn u)=true:=Du
 have:=Array.all_eq_true'.1 bt t hm
 exact Cv
end GaugesErrors
end Go.Proofs.YtdblhepcmjecgaaGreatDoor.V
