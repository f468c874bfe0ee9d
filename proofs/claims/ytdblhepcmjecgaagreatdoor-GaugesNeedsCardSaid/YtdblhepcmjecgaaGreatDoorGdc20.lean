/-
  GaugesNeeds returns true for every input, and leaves its arguments as they were: the row, and the card that ties the listed variables to the program's text. Conditions: none beyond what the row itself says.
-/
import Derived.Test.YtdblhepcmjecgaaGreatDoorGdc26
import Derived.Test.YtdblhepcmjecgaaGreatDoorGdc25
import Derived.Test.YtdblhepcmjecgaaGreatDoorGdc24
import Derived.Test.YtdblhepcmjecgaaGreatDoorGdc16
import Derived.Test.YtdblhepcmjecgaaGreatDoorGdc18
import Derived.Test.YtdblhepcmjecgaaGreatDoorGdc19
set_option maxRecDepth 100000
set_option maxHeartbeats 40000000
namespace Go.Proofs.YtdblhepcmjecgaaGreatDoor.V
open Go Go.RowKit Go.ChangeShapes Go.WideShapes Go.ChangeAt
namespace GaugesNeeds
theorem c1u{H:Type}{enc:TypeId×Value→H}{W:World}{base:Nat}{args:Array Value}{ds gs:List (DataW H)}{before:List MemPlace}
 (cg:∀(j:Nat) t v,Go.Proofs.Tryz.f5.params[j]?=some t→args[j]?=some v→Value.okWide Go.Proofs.Tryz.prog W .any base t v)
 (hW:DataW.Whole enc Go.Proofs.Tryz.prog Go.Proofs.Tryz.f5.params.toList Rows.gaugesNeedsSpec.vars false W args.toList ds gs before) (hL:laidMetH Go.Proofs.Tryz.prog g2x W):
 Calls Go.Proofs.Tryz.prog 5 args W fun e W'=>∃v,e=.returned v∧Rows.gaugesNeedsSpec.post enc Go.Proofs.Tryz.prog Go.Proofs.Tryz.f5 false true false false W args v W':=by
 have tm:=hW
 obtain⟨p,q,ri,hV,rfl,P4,fk⟩:=tm
 have hA:DataW.TrodAll enc Go.Proofs.Tryz.prog W 0 (fun _=>true) true Go.Proofs.Tryz.f5.params.toList args.toList ds p:=ri
 rw[Go.Proofs.Tryz.params5]at hA cg
 obtain⟨v0,vs0,d0,ds0,p0,q0,f9,rfl,rfl,h0,r0⟩:=trodAll_cons hA
 obtain⟨v1,vs1,d1,ds1,p1,q1,rfl,rfl,rfl,h1,r1⟩:=trodAll_cons r0
 obtain⟨v2,vs2,d2,ds2,p2,q2,rfl,rfl,rfl,h2,r2⟩:=trodAll_cons r1
 obtain⟨rfl,rfl,rfl⟩:=trodAll_nil r2
 obtain rfl:args= #[v0,v1,v2]:=Array.ext' f9
 obtain⟨rfl,rfl⟩:=trodVars_none hV
 obtain⟨⟨w,v,l⟩,hx,D0⟩:=j22 (cg 0 _ v0 rfl rfl) h0
 obtain⟨⟨a,b⟩,hp,D1⟩:=g35 (cg 1 _ v1 rfl rfl) h1
 obtain⟨n,hn,rfl⟩:=j1t (cg 2 _ v2 rfl rfl) h2
 have hg:=b8p hL
 refine(d95 (pGN_of d0k) ((w,v,l),(a,b),n) (j4p hx hp hn) (vals:=[v0,v1,.int .i64 n]) hg ⟨rfl,fun i s v hs hv=> ?_⟩).mono ?_
 ·match i,hs,hv with
  |0,hs,hv=>simp[FGN]at hs hv;subst hs hv;exact D0
  |1,hs,hv=>simp[FGN]at hs hv;subst hs hv;exact D1
  |2,hs,hv=>simp[FGN]at hs hv;subst hs hv;exact .int
 ·rintro e W' ⟨rfl,bg⟩
  exact Cy
theorem lifted(os:Os)(started:os.Started)(H:Type)(enc:TypeId×Value→H):
 ReturnsInHanded {} Go.Proofs.Tryz.checked os 5 .any (fun w args=>(Rows.gaugesNeedsSpec.pre enc Go.Proofs.Tryz.prog Go.Proofs.Tryz.f5 [] false w args∧laidMetH Go.Proofs.Tryz.prog Rows.gaugesNeedsRow.laid w)∧sizedMet enc Go.Proofs.Tryz.prog Go.Proofs.Tryz.f5 (OpenSpec.ofChange Rows.gaugesNeedsSpec) false w args)
  (Rows.gaugesNeedsSpec.post enc Go.Proofs.Tryz.prog Go.Proofs.Tryz.f5 false true false false):=by
 refine returnsInHanded_of_change_and (C:=Go.Proofs.Tryz.checked) (X:=fun w _=>laidMetH Go.Proofs.Tryz.prog Rows.gaugesNeedsRow.laid w) (fun _ _ _ hh h=>h.of_heap hh) own started Du Go.Proofs.Tryz.func5
  (ChangeSpec.witness_shaped (enc:=enc) (C:=Go.Proofs.Tryz.checked) (os:=os) (X:=fun w _=>laidMetH Go.Proofs.Tryz.prog Rows.gaugesNeedsRow.laid w) false (World.doorLaid Go.Proofs.Tryz.prog 1000 os) #[.agg #[.int .u8 0,.int .u8 0,.slice none 0 0],.agg #[.int .u16 0,.int .u16 0],.int .i64 0] 8 rfl (World.shaped_of_RefB Du Du) Du Du Du (c12 os _)) ?_
 intro W base args ds gs before cg hW _ _ hL _
 exact c1u cg hW hL
theorem said:Rows.GaugesNeedsSaid:=
 OpenClaim.holds_of_wide 5 Go.Proofs.Tryz.f5 rfl rfl rfl rfl rfl rfl rfl ⟨rfl,rfl,rfl,rfl,rfl⟩ rfl rfl rfl rfl rfl nmd Go.Proofs.Tryz.func5 facts inst wrap
  (fun os started H enc _=>lifted os started H enc)
end GaugesNeeds
end Go.Proofs.YtdblhepcmjecgaaGreatDoor.V
namespace Go.Proofs.YtdblhepcmjecgaaGreatDoor
theorem gaugesNeeds_card:Rows.GaugesNeedsCardSaid:=
 Claim7.holds_tied_plain_at .later [] _ _ _ _ V.GaugesNeeds.said (fun _ h=>(by cases h)) (by kernel_rfl) (fun _ h=>(by cases h)) gaugesNeeds_row_tie rfl ⟨rfl,rfl⟩ (by kernel_rfl) rfl V.GaugesNeeds.plain (by kernel_rfl)
#print axioms gaugesNeeds_card
end Go.Proofs.YtdblhepcmjecgaaGreatDoor
