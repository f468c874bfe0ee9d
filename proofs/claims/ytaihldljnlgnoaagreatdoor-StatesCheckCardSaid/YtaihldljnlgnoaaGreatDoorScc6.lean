/-
  Parts of the proof: K31a. Conditions: none.
-/
import Derived.Test.YtaihldljnlgnoaaGreatDoorScc5
import Derived.Test.YtaihldljnlgnoaaGreatDoorCards
import Derived.Test.YtaihldljnlgnoaaGreatDoorTie
import Derived.SevenTiedAt
set_option maxRecDepth 100000
set_option maxHeartbeats 40000000
namespace Go.Proofs.YtaihldljnlgnoaaGreatDoor.V
open Go
section
open Go.RowKit Go.ChangeShapes Go.WideShapes Go.ChangeAt
namespace StatesCheck
theorem own:ownKnob Go.Proofs.Tryz.prog.godebug=none:=by kernel_rfl
theorem f23(os:Os)(args:Array Value):laidMetH Go.Proofs.Tryz.prog Rows.statesCheckRow.laid ((World.doorLaid Go.Proofs.Tryz.prog 1000 os).forCall (λ_ _=>0) ⟨#[],args,[]⟩).memory:=
 laidMetH_of_parts3 (fuel:=8) (laidMet_of_run' 8 (by kernel_rfl) (by kernel_rfl)) (by kernel_rfl) (by kernel_rfl)
theorem k0:Rows.statesCheckRow.wf (OpenSpec.ofChange Rows.statesCheckSpec)=true:=by kernel_rfl
theorem k1:laidOutB Tryz.pinned.checked.prog=true:=by kernel_rfl
theorem k2:mapsRowed Tryz.pinned.checked.prog=true:=by kernel_rfl
theorem k3:Go.Proofs.Tryz.f7.params.all (Tryz.pinned.checked.prog.readableRec ·)=true:=by kernel_rfl
theorem k4:namedTie Tryz.pinned.checked.prog Rows.statesCheckRow.named Rows.statesCheckSpec.vars=true:=by kernel_rfl
theorem k5:(Rows.statesCheckRow.stops==[])=true:=by kernel_rfl
theorem k6:(Tryz.pinned.checked.prog.stops==[])=true:=by kernel_rfl
theorem k7:(Rows.statesCheckRow.knobs==[])=true:=by kernel_rfl
theorem k8:(Tryz.pinned.checked.prog.stopKnobs==[])=true:=by kernel_rfl
theorem k9:(Rows.statesCheckRow.inPlace==Tryz.pinned.checked.prog.inPlace 7)=true:=by kernel_rfl
theorem k10:(Rows.statesCheckRow.unfollowed==Tryz.pinned.checked.prog.unfollowed 7)=true:=by kernel_rfl
theorem k11:(Rows.statesCheckRow.recurses==Tryz.pinned.checked.prog.recurses 7)=true:=by kernel_rfl
theorem k12:(Rows.statesCheckRow.named==Tryz.pinned.checked.prog.varsNamed 7)=true:=by kernel_rfl
theorem WK:(Rows.statesCheckRow.maps==(Go.Proofs.Tryz.f7.params.toList++Rows.statesCheckSpec.plain.varTypes Tryz.pinned.checked.prog).any (Tryz.pinned.checked.prog.mapsRec ·))=true:=by kernel_rfl
theorem k14:(Rows.statesCheckRow.ifaces==(Go.Proofs.Tryz.f7.params.toList++Rows.statesCheckSpec.plain.varTypes Tryz.pinned.checked.prog).any (Tryz.pinned.checked.prog.ifacesRec ·))=true:=by kernel_rfl
theorem k15:(Rows.statesCheckRow.mapsOut==Tryz.pinned.checked.prog.mapsAmong Go.Proofs.Tryz.f7.resultTypes.toList)=true:=by kernel_rfl
theorem k16:(Rows.statesCheckRow.loops==(Go.Proofs.Tryz.f7.params.toList++Rows.statesCheckSpec.plain.varTypes Tryz.pinned.checked.prog).any (Tryz.pinned.checked.prog.loopsFrom ·))=true:=by kernel_rfl
theorem k17:(Rows.statesCheckRow.wideKeys==(Go.Proofs.Tryz.f7.params.toList++Rows.statesCheckSpec.plain.varTypes Tryz.pinned.checked.prog++Go.Proofs.Tryz.f7.resultTypes.toList).any (Tryz.pinned.checked.prog.wideKeysFrom ·))=true:=by kernel_rfl
theorem k18:Rows.statesCheckSpec.vars.all (Tryz.pinned.checked.prog.varReadable ·)=true:=by kernel_rfl
theorem k19:Go.Proofs.Tryz.f7.resultTypes.all (λt=>Tryz.pinned.checked.prog.readableRec t&&decide (t<Tryz.pinned.checked.prog.types.size))=true:=by kernel_rfl
theorem k20:(Rows.statesCheckRow.ifacesOut==Go.Proofs.Tryz.f7.resultTypes.toList.any (Tryz.pinned.checked.prog.ifacesRec ·))=true:=by kernel_rfl
theorem k21:(Rows.statesCheckRow.loopsOut==Go.Proofs.Tryz.f7.resultTypes.toList.any (Tryz.pinned.checked.prog.loopsFrom ·))=true:=by kernel_rfl
theorem k22:(Rows.statesCheckRow.plainKeys==Tryz.pinned.checked.prog.plainKeys)=true:=by kernel_rfl
theorem k23:Rows.statesCheckRow.shortTexts.isNone=true:=by kernel_rfl
theorem k24:Tryz.pinned.checked.prog.stopsHeard=true:=by kernel_rfl
theorem k25:Tryz.pinned.checked.prog.mayEnter=true:=by kernel_rfl
theorem k26:(Rows.statesCheckRow.lifted==Tryz.pinned.checked.prog.liftsFinal)=true:=by kernel_rfl
theorem k27:(Tryz.pinned.checked.prog.make==some Rows.statesCheckRow.make)=true:=by kernel_rfl
theorem k28:(Rows.statesCheckRow.kinds==(if Rows.statesCheckRow.domain.isEmpty then []else Go.Proofs.Tryz.f7.params.toList.map λt=>match Tryz.pinned.checked.prog.underlying t with|some (.int k)=>some k|_=>none))=true:=by kernel_rfl
theorem k29:(Rows.statesCheckRow.pinned==Rows.statesCheckRow.pinnedBy)=true:=by kernel_rfl
theorem k30:(Rows.statesCheckRow.veiled==(Go.Proofs.Tryz.f7.params.toList++Rows.statesCheckSpec.plain.varTypes Tryz.pinned.checked.prog++Go.Proofs.Tryz.f7.resultTypes.toList).any (Tryz.pinned.checked.prog.veiledRec ·))=true:=by kernel_rfl
theorem k31:Rows.statesCheckRow.veiledFits Tryz.pinned.checked.prog Go.Proofs.Tryz.f7.params.toList (Go.Proofs.Tryz.f7.params.toList++Rows.statesCheckSpec.plain.varTypes Tryz.pinned.checked.prog++Go.Proofs.Tryz.f7.resultTypes.toList)=true:=by kernel_rfl
theorem facts:joinedFacts Tryz.pinned.checked.prog 7 Go.Proofs.Tryz.f7 Rows.statesCheckSpec Rows.statesCheckRow=true:=by unfold joinedFacts;simp only[Bool.and_eq_true];exact⟨⟨⟨⟨⟨⟨⟨⟨⟨⟨⟨⟨⟨⟨⟨⟨⟨⟨⟨⟨⟨⟨⟨⟨⟨⟨⟨⟨⟨⟨⟨k0,k1⟩,k2⟩,k3⟩,k4⟩,k5⟩,k6⟩,k7⟩,k8⟩,k9⟩,k10⟩,k11⟩,k12⟩,WK⟩,k14⟩,k15⟩,k16⟩,k17⟩,k18⟩,k19⟩,k20⟩,k21⟩,k22⟩,k23⟩,k24⟩,k25⟩,k26⟩,k27⟩,k28⟩,k29⟩,k30⟩,k31⟩
theorem inst:Func.isInstance Tryz.pinned.checked.prog Go.Proofs.Tryz.f7 Rows.statesCheckRow.origin Rows.statesCheckRow.targs:=of_decide_eq_true (by kernel_rfl)
theorem wrap:Func.isWrapper Tryz.pinned.checked.prog Go.Proofs.Tryz.f7 Rows.statesCheckRow.wrapper Rows.statesCheckRow.mainSum:=by unfold Func.isWrapper;first|(rw[if_pos (by decide +kernel)];kernel_rfl)|(rw[if_neg (by decide +kernel)];exact⟨rfl,rfl⟩)
theorem nmd:Tryz.pinned.checked.prog.funcNamed Rows.statesCheckRow.func=some 7:=by kernel_rfl
theorem plain(f:FuncId)(fn:Func)(hf:Go.Proofs.YtaihldljnlgnoaaGreatDoor.Tryz.pinned.checked.prog.funcNamed "crimp/crimplaw25.StatesCheck" =some f)(hfn:Go.Proofs.YtaihldljnlgnoaaGreatDoor.Tryz.pinned.checked.prog.funcs[f]?=some fn):
 false=Go.Proofs.YtaihldljnlgnoaaGreatDoor.Tryz.pinned.checked.prog.looks []/\∀(j:Nat) t,fn.params[j]?=some t->Go.Proofs.YtaihldljnlgnoaaGreatDoor.Tryz.pinned.checked.prog.wantsStandIn t=false:=by
 obtain rfl:f=7:=Option.some.inj ((show Go.Proofs.Tryz.prog.funcNamed "crimp/crimplaw25.StatesCheck" =some 7 by kernel_rfl).symm.trans hf) |>.symm;obtain rfl:fn=Go.Proofs.Tryz.f7:=(Option.some.inj (Go.Proofs.Tryz.func7.symm.trans hfn)).symm;refine⟨by kernel_rfl,λj t ht=> ?_⟩;rw[Go.Proofs.Tryz.params7]at ht;have hm:=Array.mem_of_getElem? ht;have bw:(#[24,22].all λu=> !Go.Proofs.Tryz.prog.wantsStandIn u)=true:=by kernel_rfl
 have:=Array.all_eq_true'.1 bw t hm;exact(show Go.Proofs.Tryz.prog.wantsStandIn t=false by simpa using this)
end StatesCheck
end
end Go.Proofs.YtaihldljnlgnoaaGreatDoor.V
