/-
  FoldsErrors returns true for every input, and leaves its arguments as they were: the row, and the card that ties the listed variables to the program's text. Conditions: none beyond what the row itself says.
-/
import Derived.Test.YtlffhjfkaepimaaGreatDoorGec4
import Derived.Test.YtlffhjfkaepimaaGreatDoorGec10
import Derived.Test.YtlffhjfkaepimaaGreatDoorGec11
set_option maxRecDepth 100000
set_option maxHeartbeats 40000000
namespace Go.Proofs.YtlffhjfkaepimaaGreatDoor.V
open Go
section
open Go.RowKit Go.ChangeShapes Go.WideShapes Go.ChangeAt
namespace FoldsErrors
theorem c10{H:Type}{enc:TypeId×Value->H}{W:World}{base:Nat}{args:Array Value}{ds gs:List (DataW H)}{before:List MemPlace}
 (dn:∀(j:Nat) t v,Go.Proofs.Tryz.f3.params[j]?=some t->args[j]?=some v->Value.okWide Go.Proofs.Tryz.prog W .any base t v)
 (hW:DataW.Whole enc Go.Proofs.Tryz.prog Go.Proofs.Tryz.f3.params.toList Rows.foldsErrorsSpec.vars false W args.toList ds gs before) (hL:laidMetH Go.Proofs.Tryz.prog g4m W):
 Calls Go.Proofs.Tryz.prog 3 args W λe W'=>∃v,e=.returned v/\Rows.foldsErrorsSpec.post enc Go.Proofs.Tryz.prog Go.Proofs.Tryz.f3 false true false false W args v W':=by
 have Z0:=hW;obtain⟨p,q,Pe,hV,rfl,hfz,mt⟩:=Z0;have hA:DataW.TrodAll enc Go.Proofs.Tryz.prog W 0 (λ_=>true) true Go.Proofs.Tryz.f3.params.toList args.toList ds p:=Pe;rw[Go.Proofs.Tryz.params3]at hA dn;obtain⟨v0,vs0,d0,ds0,p0,q0,jq,rfl,rfl,h0,r0⟩:=trodAll_cons hA;obtain⟨v1,vs1,d1,ds1,p1,q1,rfl,rfl,rfl,h1,r1⟩:=trodAll_cons r0;obtain⟨v2,vs2,d2,ds2,p2,q2,rfl,rfl,rfl,h2,r2⟩:=trodAll_cons r1;obtain⟨rfl,rfl,rfl⟩:=trodAll_nil r2;obtain rfl:args= #[v0,v1,v2]:=Array.ext' jq;obtain⟨rfl,rfl⟩:=trodVars_none hV;obtain⟨⟨w,v,l⟩,hx,D0⟩:=arg_s (dn 0 _ v0 rfl rfl) h0;obtain⟨a,ha,rfl⟩:=arg_u8 (dn 1 _ v1 rfl rfl) h1;obtain⟨y,hy,D2⟩:=c7w (dn 2 _ v2 rfl rfl) h2;have hg:=b47 hL;refine(d5w (pFE_of c8j) ((w,v,l),a,y) (f8x hx ha hy) (vals:=[v0,.int .u8 a,v2]) hg ⟨rfl,λi s v hs hv=> ?_⟩).mono ?_
 .match i,hs,hv with
  |0,hs,hv=>simp[Rc]at hs hv;subst hs hv;exact D0
  |1,hs,hv=>simp[Rc]at hs hv;subst hs hv;exact .int
  |2,hs,hv=>simp[Rc]at hs hv;subst hs hv;exact D2
 .rintro e W' ⟨rfl,bn⟩;exact⟨_,rfl,c9s c64 rfl rfl Go.Proofs.Tryz.underlying4 rfl (by kernel_rfl) hW (b5e bn)⟩
theorem lifted(os:Os)(started:os.Started)(H:Type)(enc:TypeId×Value->H):
 ReturnsInHanded {} Go.Proofs.Tryz.checked os 3 .any (λw args=>(Rows.foldsErrorsSpec.pre enc Go.Proofs.Tryz.prog Go.Proofs.Tryz.f3 [] false w args/\laidMetH Go.Proofs.Tryz.prog Rows.foldsErrorsRow.laid w)/\sizedMet enc Go.Proofs.Tryz.prog Go.Proofs.Tryz.f3 (OpenSpec.ofChange Rows.foldsErrorsSpec) false w args)
  (Rows.foldsErrorsSpec.post enc Go.Proofs.Tryz.prog Go.Proofs.Tryz.f3 false true false false):=by
 refine returnsInHanded_of_change_and (C:=Go.Proofs.Tryz.checked) (X:=λw _=>laidMetH Go.Proofs.Tryz.prog Rows.foldsErrorsRow.laid w) (λ_ _ _ hh h=>h.of_heap hh) own started (by kernel_rfl) Go.Proofs.Tryz.func3
  (ChangeSpec.witness_shaped (enc:=enc) (C:=Go.Proofs.Tryz.checked) (os:=os) (X:=λw _=>laidMetH Go.Proofs.Tryz.prog Rows.foldsErrorsRow.laid w) false (World.doorLaid Go.Proofs.Tryz.prog 1000 os) #[.agg #[.int .u8 0,.int .u8 0,.slice none 0 0],.int .u8 0,.agg #[.int .u8 1,.int .i64 1,.int .u8 0,.bool false]] 8 rfl (World.shaped_of_RefB (by kernel_rfl) (by kernel_rfl)) (by kernel_rfl) (by kernel_rfl) (by kernel_rfl) (c1k os _)) ?_
 intro W base args ds gs before dn hW _ _ hL _;exact c10 dn hW hL
theorem said:Rows.FoldsErrorsSaid:=
 OpenClaim.holds_of_wide 3 Go.Proofs.Tryz.f3 rfl rfl rfl rfl rfl rfl rfl ⟨rfl,rfl,rfl,rfl,rfl⟩ rfl rfl rfl rfl rfl nmd Go.Proofs.Tryz.func3 facts inst wrap
  (λos started H enc _=>lifted os started H enc)
end FoldsErrors
end
end Go.Proofs.YtlffhjfkaepimaaGreatDoor.V
namespace Go.Proofs.YtlffhjfkaepimaaGreatDoor
theorem foldsErrors_card:Rows.FoldsErrorsCardSaid:=
 Claim7.holds_tied_plain_at .later [] _ _ _ _ V.FoldsErrors.said (λ_ h=>by cases h) (by kernel_rfl) (λ_ h=>by cases h) foldsErrors_row_tie rfl ⟨rfl,rfl⟩ (by kernel_rfl) rfl V.FoldsErrors.plain (by kernel_rfl)
#print axioms foldsErrors_card
end Go.Proofs.YtlffhjfkaepimaaGreatDoor
