/-
  StatesFlat returns true for every input, and leaves its arguments as they were: the row, and the card that ties the listed variables to the program's text. Conditions: none beyond what the row itself says.
-/
import Derived.Test.YtngppkidkigcbaaGreatDoorSfc4
import Derived.Test.YtngppkidkigcbaaGreatDoorSfc10
import Derived.Test.YtngppkidkigcbaaGreatDoorSfc13
set_option maxRecDepth 100000
set_option maxHeartbeats 40000000
namespace Go.Proofs.YtngppkidkigcbaaGreatDoor.V
open Go
section
open Go.RowKit Go.ChangeShapes Go.WideShapes Go.ChangeAt
namespace StatesFlat
theorem d7r{H:Type}{enc:TypeId×Value->H}{W:World}{base:Nat}{args:Array Value}{ds gs:List (DataW H)}{before:List MemPlace}
 (ff:∀(j:Nat) t v,Go.Proofs.Tryz.f3.params[j]?=some t->args[j]?=some v->Value.okWide Go.Proofs.Tryz.prog W .any base t v)
 (hW:DataW.Whole enc Go.Proofs.Tryz.prog Go.Proofs.Tryz.f3.params.toList Rows.statesFlatSpec.vars false W args.toList ds gs before) (hL:laidMetH Go.Proofs.Tryz.prog laidL W):
 Calls Go.Proofs.Tryz.prog 3 args W λe W'=>∃v,e=.returned v/\Rows.statesFlatSpec.post enc Go.Proofs.Tryz.prog Go.Proofs.Tryz.f3 false true false false W args v W':=by
 have W3:=hW;obtain⟨p,q,hA0,hV,rfl,hfz,p9⟩:=W3;have hA:DataW.TrodAll enc Go.Proofs.Tryz.prog W 0 (λ_=>true) true Go.Proofs.Tryz.f3.params.toList args.toList ds p:=hA0;rw[Go.Proofs.Tryz.params3]at hA ff;obtain⟨v0,vs0,d0,ds0,p0,q0,ku,rfl,rfl,h0,r0⟩:=trodAll_cons hA;obtain⟨v1,vs1,d1,ds1,p1,q1,rfl,rfl,rfl,h1,r1⟩:=trodAll_cons r0;obtain⟨rfl,rfl,rfl⟩:=trodAll_nil r1;obtain rfl:args= #[v0,v1]:=Array.ext' ku;obtain⟨rfl,rfl⟩:=trodVars_none hV;obtain⟨w,hw,rfl⟩:=d3t (ff 0 _ v0 rfl rfl) h0;obtain⟨h,hh,rfl⟩:=d3t (ff 1 _ v1 rfl rfl) h1;have hg:=c0d hL;refine(f0s (pSF_of d58) (w,h) (f6h hw hh) (vals:=[.int .i64 w,.int .i64 h]) hg ⟨rfl,λi s v hs hv=> ?_⟩).mono ?_
 .match i,hs,hv with
  |0,hs,hv=>simp[FSF]at hs hv;subst hs hv;exact .int
  |1,hs,hv=>simp[FSF]at hs hv;subst hs hv;exact .int
 .rintro e W' ⟨rfl,bk⟩;exact⟨_,rfl,d80 d2k rfl rfl Go.Proofs.Tryz.underlying4 rfl (by kernel_rfl) hW (c1y bk)⟩
theorem lifted(os:Os)(started:os.Started)(H:Type)(enc:TypeId×Value->H):
 ReturnsInHanded {} Go.Proofs.Tryz.checked os 3 .any (λw args=>(Rows.statesFlatSpec.pre enc Go.Proofs.Tryz.prog Go.Proofs.Tryz.f3 [] false w args/\laidMetH Go.Proofs.Tryz.prog Rows.statesFlatRow.laid w)/\sizedMet enc Go.Proofs.Tryz.prog Go.Proofs.Tryz.f3 (OpenSpec.ofChange Rows.statesFlatSpec) false w args)
  (Rows.statesFlatSpec.post enc Go.Proofs.Tryz.prog Go.Proofs.Tryz.f3 false true false false):=by
 refine returnsInHanded_of_change_and (C:=Go.Proofs.Tryz.checked) (X:=λw _=>laidMetH Go.Proofs.Tryz.prog Rows.statesFlatRow.laid w) (λ_ _ _ hh h=>h.of_heap hh) own started (by kernel_rfl) Go.Proofs.Tryz.func3
  (ChangeSpec.witness_shaped (enc:=enc) (C:=Go.Proofs.Tryz.checked) (os:=os) (X:=λw _=>laidMetH Go.Proofs.Tryz.prog Rows.statesFlatRow.laid w) false (World.doorLaid Go.Proofs.Tryz.prog 1000 os) #[.int .i64 1,.int .i64 1] 8 rfl (World.shaped_of_RefB (by kernel_rfl) (by kernel_rfl)) (by kernel_rfl) (by kernel_rfl) (by kernel_rfl) (d8u os _)) ?_
 intro W base args ds gs before ff hW _ _ hL _;exact d7r ff hW hL
theorem said:Rows.StatesFlatSaid:=
 OpenClaim.holds_of_wide 3 Go.Proofs.Tryz.f3 rfl rfl rfl rfl rfl rfl rfl ⟨rfl,rfl,rfl,rfl,rfl⟩ rfl rfl rfl rfl rfl nmd Go.Proofs.Tryz.func3 facts inst wrap
  (λos started H enc _=>lifted os started H enc)
end StatesFlat
end
end Go.Proofs.YtngppkidkigcbaaGreatDoor.V
namespace Go.Proofs.YtngppkidkigcbaaGreatDoor
theorem statesFlat_card:Rows.StatesFlatCardSaid:=
 Claim7.holds_tied_plain_at .later [] _ _ _ _ V.StatesFlat.said (λ_ h=>by cases h) (by kernel_rfl) (λ_ h=>by cases h) statesFlat_row_tie rfl ⟨rfl,rfl⟩ (by kernel_rfl) rfl V.StatesFlat.plain (by kernel_rfl)
#print axioms statesFlat_card
end Go.Proofs.YtngppkidkigcbaaGreatDoor
