/-
  GaugesErrors returns true for every input, and leaves its arguments as they were: the row, and the card that ties the listed variables to the program's text. Conditions: none beyond what the row itself says.
-/
import Derived.Test.YtdblhepcmjecgaaGreatDoorGdc26
import Derived.Test.YtdblhepcmjecgaaGreatDoorGdc25
import Derived.Test.YtdblhepcmjecgaaGreatDoorGdc24
import Derived.Test.YtdblhepcmjecgaaGreatDoorGdc4
import Derived.Test.YtdblhepcmjecgaaGreatDoorGdc16
set_option maxRecDepth 100000
set_option maxHeartbeats 40000000
namespace Go.Proofs.YtdblhepcmjecgaaGreatDoor.V
open Go Go.RowKit Go.ChangeShapes Go.WideShapes Go.ChangeAt
namespace GaugesErrors
theorem c1u{H:Type}{enc:TypeId×Value→H}{W:World}{base:Nat}{args:Array Value}{ds gs:List (DataW H)}{before:List MemPlace}
 (cg:∀(j:Nat) t v,Go.Proofs.Tryz.f6.params[j]?=some t→args[j]?=some v→Value.okWide Go.Proofs.Tryz.prog W .any base t v)
 (hW:DataW.Whole enc Go.Proofs.Tryz.prog Go.Proofs.Tryz.f6.params.toList Rows.gaugesErrorsSpec.vars false W args.toList ds gs before) (hL:laidMetH Go.Proofs.Tryz.prog g2x W):
 Calls Go.Proofs.Tryz.prog 6 args W fun e W'=>∃v,e=.returned v∧Rows.gaugesErrorsSpec.post enc Go.Proofs.Tryz.prog Go.Proofs.Tryz.f6 false true false false W args v W':=by
 have tm:=hW
 obtain⟨p,q,ri,hV,rfl,P4,fk⟩:=tm
 have hA:DataW.TrodAll enc Go.Proofs.Tryz.prog W 0 (fun _=>true) true Go.Proofs.Tryz.f6.params.toList args.toList ds p:=ri
 rw[Go.Proofs.Tryz.params6]at hA cg
 obtain⟨v0,vs0,d0,ds0,p0,q0,f9,rfl,rfl,h0,r0⟩:=trodAll_cons hA
 obtain⟨v1,vs1,d1,ds1,p1,q1,rfl,rfl,rfl,h1,r1⟩:=trodAll_cons r0
 obtain⟨v2,vs2,d2,ds2,p2,q2,rfl,rfl,rfl,h2,r2⟩:=trodAll_cons r1
 obtain⟨rfl,rfl,rfl⟩:=trodAll_nil r2
 obtain rfl:args= #[v0,v1,v2]:=Array.ext' f9
 obtain⟨rfl,rfl⟩:=trodVars_none hV
 obtain⟨⟨w,v,l⟩,hx,D0⟩:=j22 (cg 0 _ v0 rfl rfl) h0
 obtain⟨⟨t,s⟩,hp,D1⟩:=f8k (cg 1 _ v1 rfl rfl) h1
 obtain⟨b,hb,D2⟩:=g34 (cg 2 _ v2 rfl rfl) h2
 have hg:=b8p hL
 refine(d95 (pGE_of d0k) ((w,v,l),(t,s),b) (j3n hx hp hb) (vals:=[v0,v1,v2]) hg ⟨rfl,fun i s v hs hv=> ?_⟩).mono ?_
 ·match i,hs,hv with
  |0,hs,hv=>simp[FGE]at hs hv;subst hs hv;exact D0
  |1,hs,hv=>simp[FGE]at hs hv;subst hs hv;exact D1
  |2,hs,hv=>simp[FGE]at hs hv;subst hs hv;exact D2
 ·rintro e W' ⟨rfl,bg⟩
  exact Cy
theorem lifted(os:Os)(started:os.Started)(H:Type)(enc:TypeId×Value→H):
 ReturnsInHanded {} Go.Proofs.Tryz.checked os 6 .any (fun w args=>(Rows.gaugesErrorsSpec.pre enc Go.Proofs.Tryz.prog Go.Proofs.Tryz.f6 [] false w args∧laidMetH Go.Proofs.Tryz.prog Rows.gaugesErrorsRow.laid w)∧sizedMet enc Go.Proofs.Tryz.prog Go.Proofs.Tryz.f6 (OpenSpec.ofChange Rows.gaugesErrorsSpec) false w args)
  (Rows.gaugesErrorsSpec.post enc Go.Proofs.Tryz.prog Go.Proofs.Tryz.f6 false true false false):=by
 refine returnsInHanded_of_change_and (C:=Go.Proofs.Tryz.checked) (X:=fun w _=>laidMetH Go.Proofs.Tryz.prog Rows.gaugesErrorsRow.laid w) (fun _ _ _ hh h=>h.of_heap hh) own started Du Go.Proofs.Tryz.func6
  (ChangeSpec.witness_shaped (enc:=enc) (C:=Go.Proofs.Tryz.checked) (os:=os) (X:=fun w _=>laidMetH Go.Proofs.Tryz.prog Rows.gaugesErrorsRow.laid w) false (World.doorLaid Go.Proofs.Tryz.prog 1000 os) #[.agg #[.int .u8 0,.int .u8 0,.slice none 0 0],.agg #[.int .i64 1,.int .i64 1],.bool false] 8 rfl (World.shaped_of_RefB Du Du) Du Du Du (c12 os _)) ?_
 intro W base args ds gs before cg hW _ _ hL _
 exact c1u cg hW hL
theorem said:Rows.GaugesErrorsSaid:=
 OpenClaim.holds_of_wide 6 Go.Proofs.Tryz.f6 rfl rfl rfl rfl rfl rfl rfl ⟨rfl,rfl,rfl,rfl,rfl⟩ rfl rfl rfl rfl rfl nmd Go.Proofs.Tryz.func6 facts inst wrap
  (fun os started H enc _=>lifted os started H enc)
end GaugesErrors
end Go.Proofs.YtdblhepcmjecgaaGreatDoor.V
namespace Go.Proofs.YtdblhepcmjecgaaGreatDoor
theorem gaugesErrors_card:Rows.GaugesErrorsCardSaid:=
 Claim7.holds_tied_plain_at .later [] _ _ _ _ V.GaugesErrors.said (fun _ h=>(by cases h)) (by kernel_rfl) (fun _ h=>(by cases h)) gaugesErrors_row_tie rfl ⟨rfl,rfl⟩ (by kernel_rfl) rfl V.GaugesErrors.plain (by kernel_rfl)
#print axioms gaugesErrors_card
end Go.Proofs.YtdblhepcmjecgaaGreatDoor
