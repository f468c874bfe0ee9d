/-
  Parts of the proof: K29a. Conditions: none.
-/
import Derived.Test.YtaihldljnlgnoaaGreatDoorSmc5
import Derived.Test.YtaihldljnlgnoaaGreatDoorCards
import Derived.Test.YtaihldljnlgnoaaGreatDoorTie
import Derived.SevenTiedAt
set_option maxRecDepth 100000
set_option maxHeartbeats 40000000
namespace Go.Proofs.YtaihldljnlgnoaaGreatDoor.V
open Go
section
open Go.RowKit Go.ChangeShapes Go.WideShapes Go.ChangeAt
namespace StatesMove
theorem own:ownKnob Go.Proofs.Tryz.prog.godebug=none:=by kernel_rfl
theorem c0n(os:Os)(args:Array Value):laidMetH Go.Proofs.Tryz.prog Rows.statesMoveRow.laid ((World.doorLaid Go.Proofs.Tryz.prog 1000 os).forCall (λ_ _=>0) ⟨#[],args,[]⟩).memory:=
 laidMetH_of_parts3 (fuel:=8) (laidMet_of_run' 8 (by kernel_rfl) (by kernel_rfl)) (by kernel_rfl) (by kernel_rfl)
theorem k0:Rows.statesMoveRow.wf (OpenSpec.ofChange Rows.statesMoveSpec)=true:=by kernel_rfl
theorem k1:laidOutB Tryz.pinned.checked.prog=true:=by kernel_rfl
theorem k2:mapsRowed Tryz.pinned.checked.prog=true:=by kernel_rfl
theorem k3:Go.Proofs.Tryz.f5.params.all (Tryz.pinned.checked.prog.readableRec ·)=true:=by kernel_rfl
theorem k4:namedTie Tryz.pinned.checked.prog Rows.statesMoveRow.named Rows.statesMoveSpec.vars=true:=by kernel_rfl
theorem k5:(Rows.statesMoveRow.stops==[])=true:=by kernel_rfl
theorem k6:(Tryz.pinned.checked.prog.stops==[])=true:=by kernel_rfl
theorem k7:(Rows.statesMoveRow.knobs==[])=true:=by kernel_rfl
theorem k8:(Tryz.pinned.checked.prog.stopKnobs==[])=true:=by kernel_rfl
theorem k9:(Rows.statesMoveRow.inPlace==Tryz.pinned.checked.prog.inPlace 5)=true:=by kernel_rfl
theorem k10:(Rows.statesMoveRow.unfollowed==Tryz.pinned.checked.prog.unfollowed 5)=true:=by kernel_rfl
theorem k11:(Rows.statesMoveRow.recurses==Tryz.pinned.checked.prog.recurses 5)=true:=by kernel_rfl
theorem k12:(Rows.statesMoveRow.named==Tryz.pinned.checked.prog.varsNamed 5)=true:=by kernel_rfl
theorem k13:(Rows.statesMoveRow.maps==(Go.Proofs.Tryz.f5.params.toList++Rows.statesMoveSpec.plain.varTypes Tryz.pinned.checked.prog).any (Tryz.pinned.checked.prog.mapsRec ·))=true:=by kernel_rfl
theorem k14:(Rows.statesMoveRow.ifaces==(Go.Proofs.Tryz.f5.params.toList++Rows.statesMoveSpec.plain.varTypes Tryz.pinned.checked.prog).any (Tryz.pinned.checked.prog.ifacesRec ·))=true:=by kernel_rfl
theorem k15:(Rows.statesMoveRow.mapsOut==Tryz.pinned.checked.prog.mapsAmong Go.Proofs.Tryz.f5.resultTypes.toList)=true:=by kernel_rfl
theorem k16:(Rows.statesMoveRow.loops==(Go.Proofs.Tryz.f5.params.toList++Rows.statesMoveSpec.plain.varTypes Tryz.pinned.checked.prog).any (Tryz.pinned.checked.prog.loopsFrom ·))=true:=by kernel_rfl
theorem k17:(Rows.statesMoveRow.wideKeys==(Go.Proofs.Tryz.f5.params.toList++Rows.statesMoveSpec.plain.varTypes Tryz.pinned.checked.prog++Go.Proofs.Tryz.f5.resultTypes.toList).any (Tryz.pinned.checked.prog.wideKeysFrom ·))=true:=by kernel_rfl
theorem k18:Rows.statesMoveSpec.vars.all (Tryz.pinned.checked.prog.varReadable ·)=true:=by kernel_rfl
theorem k19:Go.Proofs.Tryz.f5.resultTypes.all (λt=>Tryz.pinned.checked.prog.readableRec t&&decide (t<Tryz.pinned.checked.prog.types.size))=true:=by kernel_rfl
theorem k20:(Rows.statesMoveRow.ifacesOut==Go.Proofs.Tryz.f5.resultTypes.toList.any (Tryz.pinned.checked.prog.ifacesRec ·))=true:=by kernel_rfl
theorem k21:(Rows.statesMoveRow.loopsOut==Go.Proofs.Tryz.f5.resultTypes.toList.any (Tryz.pinned.checked.prog.loopsFrom ·))=true:=by kernel_rfl
theorem k22:(Rows.statesMoveRow.plainKeys==Tryz.pinned.checked.prog.plainKeys)=true:=by kernel_rfl
theorem k23:Rows.statesMoveRow.shortTexts.isNone=true:=by kernel_rfl
theorem k24:Tryz.pinned.checked.prog.stopsHeard=true:=by kernel_rfl
theorem k25:Tryz.pinned.checked.prog.mayEnter=true:=by kernel_rfl
theorem k26:(Rows.statesMoveRow.lifted==Tryz.pinned.checked.prog.liftsFinal)=true:=by kernel_rfl
theorem k27:(Tryz.pinned.checked.prog.make==some Rows.statesMoveRow.make)=true:=by kernel_rfl
theorem k28:(Rows.statesMoveRow.kinds==(if Rows.statesMoveRow.domain.isEmpty then []else Go.Proofs.Tryz.f5.params.toList.map λt=>match Tryz.pinned.checked.prog.underlying t with|some (.int k)=>some k|_=>none))=true:=by kernel_rfl
theorem k29:(Rows.statesMoveRow.pinned==Rows.statesMoveRow.pinnedBy)=true:=by kernel_rfl
theorem k30:(Rows.statesMoveRow.veiled==(Go.Proofs.Tryz.f5.params.toList++Rows.statesMoveSpec.plain.varTypes Tryz.pinned.checked.prog++Go.Proofs.Tryz.f5.resultTypes.toList).any (Tryz.pinned.checked.prog.veiledRec ·))=true:=by kernel_rfl
theorem k31:Rows.statesMoveRow.veiledFits Tryz.pinned.checked.prog Go.Proofs.Tryz.f5.params.toList (Go.Proofs.Tryz.f5.params.toList++Rows.statesMoveSpec.plain.varTypes Tryz.pinned.checked.prog++Go.Proofs.Tryz.f5.resultTypes.toList)=true:=by kernel_rfl
theorem facts:joinedFacts Tryz.pinned.checked.prog 5 Go.Proofs.Tryz.f5 Rows.statesMoveSpec Rows.statesMoveRow=true:=by unfold joinedFacts;simp only[Bool.and_eq_true];exact⟨⟨⟨⟨⟨⟨⟨⟨⟨⟨⟨⟨⟨⟨⟨⟨⟨⟨⟨⟨⟨⟨⟨⟨⟨⟨⟨⟨⟨⟨⟨k0,k1⟩,k2⟩,k3⟩,k4⟩,k5⟩,k6⟩,k7⟩,k8⟩,k9⟩,k10⟩,k11⟩,k12⟩,k13⟩,k14⟩,k15⟩,k16⟩,k17⟩,k18⟩,k19⟩,k20⟩,k21⟩,k22⟩,k23⟩,k24⟩,k25⟩,k26⟩,k27⟩,k28⟩,k29⟩,k30⟩,k31⟩
theorem inst:Func.isInstance Tryz.pinned.checked.prog Go.Proofs.Tryz.f5 Rows.statesMoveRow.origin Rows.statesMoveRow.targs:=of_decide_eq_true (by kernel_rfl)
theorem wrap:Func.isWrapper Tryz.pinned.checked.prog Go.Proofs.Tryz.f5 Rows.statesMoveRow.wrapper Rows.statesMoveRow.mainSum:=by unfold Func.isWrapper;first|(rw[if_pos (by decide +kernel)];kernel_rfl)|(rw[if_neg (by decide +kernel)];exact⟨rfl,rfl⟩)
theorem nmd:Tryz.pinned.checked.prog.funcNamed Rows.statesMoveRow.func=some 5:=by kernel_rfl
theorem plain(f:FuncId)(fn:Func)(hf:Go.Proofs.YtaihldljnlgnoaaGreatDoor.Tryz.pinned.checked.prog.funcNamed "crimp/crimplaw25.StatesMove" =some f)(Zg:Go.Proofs.YtaihldljnlgnoaaGreatDoor.Tryz.pinned.checked.prog.funcs[f]?=some fn):
 false=Go.Proofs.YtaihldljnlgnoaaGreatDoor.Tryz.pinned.checked.prog.looks []/\∀(j:Nat) t,fn.params[j]?=some t->Go.Proofs.YtaihldljnlgnoaaGreatDoor.Tryz.pinned.checked.prog.wantsStandIn t=false:=by
 obtain rfl:f=5:=Option.some.inj ((show Go.Proofs.Tryz.prog.funcNamed "crimp/crimplaw25.StatesMove" =some 5 by kernel_rfl).symm.trans hf) |>.symm;obtain rfl:fn=Go.Proofs.Tryz.f5:=(Option.some.inj (Go.Proofs.Tryz.func5.symm.trans Zg)).symm;refine⟨by kernel_rfl,λj t ht=> ?_⟩;rw[Go.Proofs.Tryz.params5]at ht;have hm:=Array.mem_of_getElem? ht;have bw:(#[24,31].all λu=> !Go.Proofs.Tryz.prog.wantsStandIn u)=true:=by kernel_rfl
 have:=Array.all_eq_true'.1 bw t hm;exact(show Go.Proofs.Tryz.prog.wantsStandIn t=false by simpa using this)
end StatesMove
end
end Go.Proofs.YtaihldljnlgnoaaGreatDoor.V
