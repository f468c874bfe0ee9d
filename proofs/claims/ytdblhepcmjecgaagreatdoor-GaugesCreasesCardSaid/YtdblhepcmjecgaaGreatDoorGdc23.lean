/-
  GaugesCreases returns true for every input, and leaves its arguments as they were: the row, and the card that ties the listed variables to the program's text. Conditions: none beyond what the row itself says.
-/
import Derived.Test.YtdblhepcmjecgaaGreatDoorGdc26
import Derived.Test.YtdblhepcmjecgaaGreatDoorGdc25
import Derived.Test.YtdblhepcmjecgaaGreatDoorGdc24
import Derived.Test.YtdblhepcmjecgaaGreatDoorGdc16
import Derived.Test.YtdblhepcmjecgaaGreatDoorGdc21
import Derived.Test.YtdblhepcmjecgaaGreatDoorGdc22
set_option maxRecDepth 100000
set_option maxHeartbeats 40000000
namespace Go.Proofs.YtdblhepcmjecgaaGreatDoor.V
open Go Go.RowKit Go.ChangeShapes Go.WideShapes Go.ChangeAt
namespace GaugesCreases
theorem c1u{H:Type}{enc:TypeId×Value→H}{W:World}{base:Nat}{args:Array Value}{ds gs:List (DataW H)}{before:List MemPlace}
 (cg:∀(j:Nat) t v,Go.Proofs.Tryz.f4.params[j]?=some t→args[j]?=some v→Value.okWide Go.Proofs.Tryz.prog W .any base t v)
 (hW:DataW.Whole enc Go.Proofs.Tryz.prog Go.Proofs.Tryz.f4.params.toList Rows.gaugesCreasesSpec.vars false W args.toList ds gs before) (hL:laidMetH Go.Proofs.Tryz.prog g2x W):
 Calls Go.Proofs.Tryz.prog 4 args W fun e W'=>∃v,e=.returned v∧Rows.gaugesCreasesSpec.post enc Go.Proofs.Tryz.prog Go.Proofs.Tryz.f4 false true false false W args v W':=by
 have tm:=hW
 obtain⟨p,q,ri,hV,rfl,P4,fk⟩:=tm
 have hA:DataW.TrodAll enc Go.Proofs.Tryz.prog W 0 (fun _=>true) true Go.Proofs.Tryz.f4.params.toList args.toList ds p:=ri
 rw[Go.Proofs.Tryz.params4]at hA cg
 obtain⟨v0,vs0,d0,ds0,p0,q0,f9,rfl,rfl,h0,r0⟩:=trodAll_cons hA
 obtain⟨rfl,rfl,rfl⟩:=trodAll_nil r0
 obtain rfl:args= #[v0]:=Array.ext' f9
 obtain⟨rfl,rfl⟩:=trodVars_none hV
 obtain⟨⟨w,v,l⟩,hx,D0⟩:=j22 (cg 0 _ v0 rfl rfl) h0
 have hg:=b8p hL
 refine(d95 (pGC_of d0k) ((w,v,l)) (j4y hx) (vals:=[v0]) hg ⟨rfl,fun i s v hs hv=> ?_⟩).mono ?_
 ·match i,hs,hv with
  |0,hs,hv=>simp[FGC]at hs hv;subst hs hv;exact D0
 ·rintro e W' ⟨rfl,bg⟩
  exact Cy
theorem lifted(os:Os)(started:os.Started)(H:Type)(enc:TypeId×Value→H):
 ReturnsInHanded {} Go.Proofs.Tryz.checked os 4 .any (fun w args=>(Rows.gaugesCreasesSpec.pre enc Go.Proofs.Tryz.prog Go.Proofs.Tryz.f4 [] false w args∧laidMetH Go.Proofs.Tryz.prog Rows.gaugesCreasesRow.laid w)∧sizedMet enc Go.Proofs.Tryz.prog Go.Proofs.Tryz.f4 (OpenSpec.ofChange Rows.gaugesCreasesSpec) false w args)
  (Rows.gaugesCreasesSpec.post enc Go.Proofs.Tryz.prog Go.Proofs.Tryz.f4 false true false false):=by
 refine returnsInHanded_of_change_and (C:=Go.Proofs.Tryz.checked) (X:=fun w _=>laidMetH Go.Proofs.Tryz.prog Rows.gaugesCreasesRow.laid w) (fun _ _ _ hh h=>h.of_heap hh) own started Du Go.Proofs.Tryz.func4
  (ChangeSpec.witness_shaped (enc:=enc) (C:=Go.Proofs.Tryz.checked) (os:=os) (X:=fun w _=>laidMetH Go.Proofs.Tryz.prog Rows.gaugesCreasesRow.laid w) false (World.doorLaid Go.Proofs.Tryz.prog 1000 os) #[.agg #[.int .u8 0,.int .u8 0,.slice none 0 0]] 8 rfl (World.shaped_of_RefB Du Du) Du Du Du (c12 os _)) ?_
 intro W base args ds gs before cg hW _ _ hL _
 exact c1u cg hW hL
theorem said:Rows.GaugesCreasesSaid:=
 OpenClaim.holds_of_wide 4 Go.Proofs.Tryz.f4 rfl rfl rfl rfl rfl rfl rfl ⟨rfl,rfl,rfl,rfl,rfl⟩ rfl rfl rfl rfl rfl nmd Go.Proofs.Tryz.func4 facts inst wrap
  (fun os started H enc _=>lifted os started H enc)
end GaugesCreases
end Go.Proofs.YtdblhepcmjecgaaGreatDoor.V
namespace Go.Proofs.YtdblhepcmjecgaaGreatDoor
theorem gaugesCreases_card:Rows.GaugesCreasesCardSaid:=
 Claim7.holds_tied_plain_at .later [] _ _ _ _ V.GaugesCreases.said (fun _ h=>(by cases h)) (by kernel_rfl) (fun _ h=>(by cases h)) gaugesCreases_row_tie rfl ⟨rfl,rfl⟩ (by kernel_rfl) rfl V.GaugesCreases.plain (by kernel_rfl)
#print axioms gaugesCreases_card
end Go.Proofs.YtdblhepcmjecgaaGreatDoor
