/-
  FoldsLines returns true for every input, and leaves its arguments as they were: the row, and the card that ties the listed variables to the program's text. Conditions: none beyond what the row itself says.
-/
import Derived.Test.YtlffhjfkaepimaaGreatDoorGec11
import Derived.Test.YtlffhjfkaepimaaGreatDoorGec13
import Derived.Test.YtlffhjfkaepimaaGreatDoorGec14
set_option maxRecDepth 100000
set_option maxHeartbeats 40000000
namespace Go.Proofs.YtlffhjfkaepimaaGreatDoor.V
open Go
section
open Go.RowKit Go.ChangeShapes Go.WideShapes Go.ChangeAt
namespace FoldsLines
theorem c10{H:Type}{enc:TypeId×Value->H}{W:World}{base:Nat}{args:Array Value}{ds gs:List (DataW H)}{before:List MemPlace}
 (dn:∀(j:Nat) t v,Go.Proofs.Tryz.f4.params[j]?=some t->args[j]?=some v->Value.okWide Go.Proofs.Tryz.prog W .any base t v)
 (hW:DataW.Whole enc Go.Proofs.Tryz.prog Go.Proofs.Tryz.f4.params.toList Rows.foldsLinesSpec.vars false W args.toList ds gs before) (hL:laidMetH Go.Proofs.Tryz.prog g4m W):
 Calls Go.Proofs.Tryz.prog 4 args W λe W'=>∃v,e=.returned v/\Rows.foldsLinesSpec.post enc Go.Proofs.Tryz.prog Go.Proofs.Tryz.f4 false true false false W args v W':=by
 have Z0:=hW;obtain⟨p,q,Pe,hV,rfl,hfz,mt⟩:=Z0;have hA:DataW.TrodAll enc Go.Proofs.Tryz.prog W 0 (λ_=>true) true Go.Proofs.Tryz.f4.params.toList args.toList ds p:=Pe;rw[Go.Proofs.Tryz.params4]at hA dn;obtain⟨v0,vs0,d0,ds0,p0,q0,jq,rfl,rfl,h0,r0⟩:=trodAll_cons hA;obtain⟨v1,vs1,d1,ds1,p1,q1,rfl,rfl,rfl,h1,r1⟩:=trodAll_cons r0;obtain⟨rfl,rfl,rfl⟩:=trodAll_nil r1;obtain rfl:args= #[v0,v1]:=Array.ext' jq;obtain⟨rfl,rfl⟩:=trodVars_none hV;obtain⟨⟨w,v,l⟩,hx,D0⟩:=arg_s (dn 0 _ v0 rfl rfl) h0;obtain⟨y,hy,D1⟩:=c7w (dn 1 _ v1 rfl rfl) h1;have hg:=b47 hL;refine(d5w (pFL_of c8j) ((w,v,l),y) (g4b hx hy) (vals:=[v0,v1]) hg ⟨rfl,λi s v hs hv=> ?_⟩).mono ?_
 .match i,hs,hv with
  |0,hs,hv=>simp[FFL]at hs hv;subst hs hv;exact D0
  |1,hs,hv=>simp[FFL]at hs hv;subst hs hv;exact D1
 .rintro e W' ⟨rfl,bn⟩;exact⟨_,rfl,c9s c64 rfl rfl Go.Proofs.Tryz.underlying4 rfl (by kernel_rfl) hW (b5e bn)⟩
theorem lifted(os:Os)(started:os.Started)(H:Type)(enc:TypeId×Value->H):
 ReturnsInHanded {} Go.Proofs.Tryz.checked os 4 .any (λw args=>(Rows.foldsLinesSpec.pre enc Go.Proofs.Tryz.prog Go.Proofs.Tryz.f4 [] false w args/\laidMetH Go.Proofs.Tryz.prog Rows.foldsLinesRow.laid w)/\sizedMet enc Go.Proofs.Tryz.prog Go.Proofs.Tryz.f4 (OpenSpec.ofChange Rows.foldsLinesSpec) false w args)
  (Rows.foldsLinesSpec.post enc Go.Proofs.Tryz.prog Go.Proofs.Tryz.f4 false true false false):=by
 refine returnsInHanded_of_change_and (C:=Go.Proofs.Tryz.checked) (X:=λw _=>laidMetH Go.Proofs.Tryz.prog Rows.foldsLinesRow.laid w) (λ_ _ _ hh h=>h.of_heap hh) own started (by kernel_rfl) Go.Proofs.Tryz.func4
  (ChangeSpec.witness_shaped (enc:=enc) (C:=Go.Proofs.Tryz.checked) (os:=os) (X:=λw _=>laidMetH Go.Proofs.Tryz.prog Rows.foldsLinesRow.laid w) false (World.doorLaid Go.Proofs.Tryz.prog 1000 os) #[.agg #[.int .u8 0,.int .u8 0,.slice none 0 0],.agg #[.int .u8 1,.int .i64 1,.int .u8 0,.bool false]] 8 rfl (World.shaped_of_RefB (by kernel_rfl) (by kernel_rfl)) (by kernel_rfl) (by kernel_rfl) (by kernel_rfl) (c1k os _)) ?_
 intro W base args ds gs before dn hW _ _ hL _;exact c10 dn hW hL
theorem said:Rows.FoldsLinesSaid:=
 OpenClaim.holds_of_wide 4 Go.Proofs.Tryz.f4 rfl rfl rfl rfl rfl rfl rfl ⟨rfl,rfl,rfl,rfl,rfl⟩ rfl rfl rfl rfl rfl nmd Go.Proofs.Tryz.func4 facts inst wrap
  (λos started H enc _=>lifted os started H enc)
end FoldsLines
end
end Go.Proofs.YtlffhjfkaepimaaGreatDoor.V
namespace Go.Proofs.YtlffhjfkaepimaaGreatDoor
theorem foldsLines_card:Rows.FoldsLinesCardSaid:=
 Claim7.holds_tied_plain_at .later [] _ _ _ _ V.FoldsLines.said (λ_ h=>by cases h) (by kernel_rfl) (λ_ h=>by cases h) foldsLines_row_tie rfl ⟨rfl,rfl⟩ (by kernel_rfl) rfl V.FoldsLines.plain (by kernel_rfl)
#print axioms foldsLines_card
end Go.Proofs.YtlffhjfkaepimaaGreatDoor
