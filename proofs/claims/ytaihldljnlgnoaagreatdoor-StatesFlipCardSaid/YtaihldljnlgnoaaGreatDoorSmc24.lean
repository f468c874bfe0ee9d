/-
  StatesFlip returns true for every input, and leaves its arguments as they were: the row, and the card that ties the listed variables to the program's text. Conditions: none beyond what the row itself says.
-/
import Derived.Test.YtaihldljnlgnoaaGreatDoorSmc19
import Derived.Test.YtaihldljnlgnoaaGreatDoorSmc21
import Derived.Test.YtaihldljnlgnoaaGreatDoorSmc23
set_option maxRecDepth 100000
set_option maxHeartbeats 40000000
namespace Go.Proofs.YtaihldljnlgnoaaGreatDoor.V
open Go
section
open Go.RowKit Go.ChangeShapes Go.WideShapes Go.ChangeAt
namespace StatesFlip
theorem c02{H:Type}{enc:TypeId×Value->H}{W:World}{base:Nat}{args:Array Value}{ds gs:List (DataW H)}{before:List MemPlace}
 (df:∀(j:Nat) t v,Go.Proofs.Tryz.f6.params[j]?=some t->args[j]?=some v->Value.okWide Go.Proofs.Tryz.prog W .any base t v)
 (hW:DataW.Whole enc Go.Proofs.Tryz.prog Go.Proofs.Tryz.f6.params.toList Rows.statesFlipSpec.vars false W args.toList ds gs before) (hL:laidMetH Go.Proofs.Tryz.prog g1p W):
 Calls Go.Proofs.Tryz.prog 6 args W λe W'=>∃v,e=.returned v/\Rows.statesFlipSpec.post enc Go.Proofs.Tryz.prog Go.Proofs.Tryz.f6 false true false false W args v W':=by
 have Q1:=hW;obtain⟨p,q,O0,hV,rfl,Y1,nj⟩:=Q1;have hA:DataW.TrodAll enc Go.Proofs.Tryz.prog W 0 (λ_=>true) true Go.Proofs.Tryz.f6.params.toList args.toList ds p:=O0;rw[Go.Proofs.Tryz.params6]at hA df;obtain⟨v0,vs0,d0,ds0,p0,q0,jd,rfl,rfl,h0,r0⟩:=trodAll_cons hA;obtain⟨v1,vs1,d1,ds1,p1,q1,rfl,rfl,rfl,h1,r1⟩:=trodAll_cons r0;obtain⟨v2,vs2,d2,ds2,p2,q2,rfl,rfl,rfl,h2,r2⟩:=trodAll_cons r1;obtain⟨rfl,rfl,rfl⟩:=trodAll_nil r2;obtain rfl:args= #[v0,v1,v2]:=Array.ext' jd;obtain⟨rfl,rfl⟩:=trodVars_none hV;obtain⟨⟨w,v,l⟩,hx,D0⟩:=arg_s (df 0 _ v0 rfl rfl) h0;obtain⟨⟨k,c⟩,hl,D1⟩:=f0d (df 1 _ v1 rfl rfl) h1;obtain⟨b,hb,D2⟩:=d90 (df 2 _ v2 rfl rfl) h2;have hg:=b3t hL;refine(d3j (f6i c5e) ((w,v,l),(k,c),b) (f22 hx hl hb) (vals:=[v0,v1,v2]) hg ⟨rfl,λi s v hs hv=> ?_⟩).mono ?_
 .match i,hs,hv with
  |0,hs,hv=>simp[Yj]at hs hv;subst hs hv;exact D0
  |1,hs,hv=>simp[Yj]at hs hv;subst hs hv;exact D1
  |2,hs,hv=>simp[Yj]at hs hv;subst hs hv;exact D2
 .rintro e W' ⟨rfl,bj⟩;exact⟨_,rfl,c7y c4j rfl rfl Go.Proofs.Tryz.underlying4 rfl (by kernel_rfl) hW (b4y bj)⟩
theorem lifted(os:Os)(started:os.Started)(H:Type)(enc:TypeId×Value->H):
 ReturnsInHanded {} Go.Proofs.Tryz.checked os 6 .any (λw args=>(Rows.statesFlipSpec.pre enc Go.Proofs.Tryz.prog Go.Proofs.Tryz.f6 [] false w args/\laidMetH Go.Proofs.Tryz.prog Rows.statesFlipRow.laid w)/\sizedMet enc Go.Proofs.Tryz.prog Go.Proofs.Tryz.f6 (OpenSpec.ofChange Rows.statesFlipSpec) false w args)
  (Rows.statesFlipSpec.post enc Go.Proofs.Tryz.prog Go.Proofs.Tryz.f6 false true false false):=by
 refine returnsInHanded_of_change_and (C:=Go.Proofs.Tryz.checked) (X:=λw _=>laidMetH Go.Proofs.Tryz.prog Rows.statesFlipRow.laid w) (λ_ _ _ hh h=>h.of_heap hh) own started (by kernel_rfl) Go.Proofs.Tryz.func6
  (ChangeSpec.witness_shaped (enc:=enc) (C:=Go.Proofs.Tryz.checked) (os:=os) (X:=λw _=>laidMetH Go.Proofs.Tryz.prog Rows.statesFlipRow.laid w) false (World.doorLaid Go.Proofs.Tryz.prog 1000 os) #[.agg #[.int .u8 0,.int .u8 0,.slice none 0 0],.agg #[.int .u8 0,.int .i64 0],.bool false] 8 rfl (World.shaped_of_RefB (by kernel_rfl) (by kernel_rfl)) (by kernel_rfl) (by kernel_rfl) (by kernel_rfl) (c0n os _)) ?_
 intro W base args ds gs before df hW _ _ hL _;exact c02 df hW hL
theorem said:Rows.StatesFlipSaid:=
 OpenClaim.holds_of_wide 6 Go.Proofs.Tryz.f6 rfl rfl rfl rfl rfl rfl rfl ⟨rfl,rfl,rfl,rfl,rfl⟩ rfl rfl rfl rfl rfl nmd Go.Proofs.Tryz.func6 facts inst wrap
  (λos started H enc _=>lifted os started H enc)
end StatesFlip
end
end Go.Proofs.YtaihldljnlgnoaaGreatDoor.V
namespace Go.Proofs.YtaihldljnlgnoaaGreatDoor
theorem statesFlip_card:Rows.StatesFlipCardSaid:=
 Claim7.holds_tied_plain_at .later [] _ _ _ _ V.StatesFlip.said (λ_ h=>by cases h) (by kernel_rfl) (λ_ h=>by cases h) statesFlip_row_tie rfl ⟨rfl,rfl⟩ (by kernel_rfl) rfl V.StatesFlip.plain (by kernel_rfl)
#print axioms statesFlip_card
end Go.Proofs.YtaihldljnlgnoaaGreatDoor
