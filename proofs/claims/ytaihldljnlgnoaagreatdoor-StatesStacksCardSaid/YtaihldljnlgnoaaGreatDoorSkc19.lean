/-
  StatesStacks returns true for every input, and leaves its arguments as they were: the row, and the card that ties the listed variables to the program's text. Conditions: none beyond what the row itself says.
-/
import Derived.Test.YtaihldljnlgnoaaGreatDoorSkc6
import Derived.Test.YtaihldljnlgnoaaGreatDoorSkc17
import Derived.Test.YtaihldljnlgnoaaGreatDoorSkc18
set_option maxRecDepth 100000
set_option maxHeartbeats 40000000
namespace Go.Proofs.YtaihldljnlgnoaaGreatDoor.V
open Go
section
open Go.RowKit Go.ChangeShapes Go.WideShapes Go.ChangeAt
namespace StatesStacks
theorem b9y{H:Type}{enc:TypeId×Value->H}{W:World}{base:Nat}{args:Array Value}{ds gs:List (DataW H)}{before:List MemPlace}
 (de:∀(j:Nat) t v,Go.Proofs.Tryz.f3.params[j]?=some t->args[j]?=some v->Value.okWide Go.Proofs.Tryz.prog W .any base t v)
 (hW:DataW.Whole enc Go.Proofs.Tryz.prog Go.Proofs.Tryz.f3.params.toList Rows.statesStacksSpec.vars false W args.toList ds gs before) (hL:laidMetH Go.Proofs.Tryz.prog g1k W):
 Calls Go.Proofs.Tryz.prog 3 args W λe W'=>∃v,e=.returned v/\Rows.statesStacksSpec.post enc Go.Proofs.Tryz.prog Go.Proofs.Tryz.f3 false true false false W args v W':=by
 have Q4:=hW;obtain⟨p,q,O2,hV,rfl,Y3,ny⟩:=Q4;have hA:DataW.TrodAll enc Go.Proofs.Tryz.prog W 0 (λ_=>true) true Go.Proofs.Tryz.f3.params.toList args.toList ds p:=O2;rw[Go.Proofs.Tryz.params3]at hA de;obtain⟨v0,vs0,d0,ds0,p0,q0,jh,rfl,rfl,h0,r0⟩:=trodAll_cons hA;obtain⟨v1,vs1,d1,ds1,p1,q1,rfl,rfl,rfl,h1,r1⟩:=trodAll_cons r0;obtain⟨v2,vs2,d2,ds2,p2,q2,rfl,rfl,rfl,h2,r2⟩:=trodAll_cons r1;obtain⟨rfl,rfl,rfl⟩:=trodAll_nil r2;obtain rfl:args= #[v0,v1,v2]:=Array.ext' jh;obtain⟨rfl,rfl⟩:=trodVars_none hV;obtain⟨⟨w,v,l⟩,hx,D0⟩:=arg_s (de 0 _ v0 rfl rfl) h0;obtain⟨a,ha,rfl⟩:=f4g (de 1 _ v1 rfl rfl) h1;obtain⟨b,hb,rfl⟩:=f4g (de 2 _ v2 rfl rfl) h2;have hg:=b3t hL;refine(d3t (d8j c5e) ((w,v,l),a,b) (d4u hx ha hb) (vals:=[v0,.int .u8 a,.int .u8 b]) hg ⟨rfl,λi s v hs hv=> ?_⟩).mono ?_
 .match i,hs,hv with
  |0,hs,hv=>simp[XO]at hs hv;subst hs hv;exact D0
  |1,hs,hv=>simp[XO]at hs hv;subst hs hv;exact .int
  |2,hs,hv=>simp[XO]at hs hv;subst hs hv;exact .int
 .rintro e W' ⟨rfl,bj⟩;exact⟨_,rfl,c88 c4k rfl rfl Go.Proofs.Tryz.underlying4 rfl (by kernel_rfl) hW (b51 bj)⟩
theorem lifted(os:Os)(started:os.Started)(H:Type)(enc:TypeId×Value->H):
 ReturnsInHanded {} Go.Proofs.Tryz.checked os 3 .any (λw args=>(Rows.statesStacksSpec.pre enc Go.Proofs.Tryz.prog Go.Proofs.Tryz.f3 [] false w args/\laidMetH Go.Proofs.Tryz.prog Rows.statesStacksRow.laid w)/\sizedMet enc Go.Proofs.Tryz.prog Go.Proofs.Tryz.f3 (OpenSpec.ofChange Rows.statesStacksSpec) false w args)
  (Rows.statesStacksSpec.post enc Go.Proofs.Tryz.prog Go.Proofs.Tryz.f3 false true false false):=by
 refine returnsInHanded_of_change_and (C:=Go.Proofs.Tryz.checked) (X:=λw _=>laidMetH Go.Proofs.Tryz.prog Rows.statesStacksRow.laid w) (λ_ _ _ hh h=>h.of_heap hh) own started (by kernel_rfl) Go.Proofs.Tryz.func3
  (ChangeSpec.witness_shaped (enc:=enc) (C:=Go.Proofs.Tryz.checked) (os:=os) (X:=λw _=>laidMetH Go.Proofs.Tryz.prog Rows.statesStacksRow.laid w) false (World.doorLaid Go.Proofs.Tryz.prog 1000 os) #[.agg #[.int .u8 0,.int .u8 0,.slice none 0 0],.int .u8 0,.int .u8 0] 8 rfl (World.shaped_of_RefB (by kernel_rfl) (by kernel_rfl)) (by kernel_rfl) (by kernel_rfl) (by kernel_rfl) (c0k os _)) ?_
 intro W base args ds gs before de hW _ _ hL _;exact b9y de hW hL
theorem said:Rows.StatesStacksSaid:=
 OpenClaim.holds_of_wide 3 Go.Proofs.Tryz.f3 rfl rfl rfl rfl rfl rfl rfl ⟨rfl,rfl,rfl,rfl,rfl⟩ rfl rfl rfl rfl rfl nmd Go.Proofs.Tryz.func3 facts inst wrap
  (λos started H enc _=>lifted os started H enc)
end StatesStacks
end
end Go.Proofs.YtaihldljnlgnoaaGreatDoor.V
namespace Go.Proofs.YtaihldljnlgnoaaGreatDoor
theorem statesStacks_card:Rows.StatesStacksCardSaid:=
 Claim7.holds_tied_plain_at .later [] _ _ _ _ V.StatesStacks.said (λ_ h=>by cases h) (by kernel_rfl) (λ_ h=>by cases h) statesStacks_row_tie rfl ⟨rfl,rfl⟩ (by kernel_rfl) rfl V.StatesStacks.plain (by kernel_rfl)
#print axioms statesStacks_card
end Go.Proofs.YtaihldljnlgnoaaGreatDoor
