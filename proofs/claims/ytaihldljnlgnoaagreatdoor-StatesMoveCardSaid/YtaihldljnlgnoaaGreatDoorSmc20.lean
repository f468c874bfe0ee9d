/-
  StatesMove returns true for every input, and leaves its arguments as they were: the row, and the card that ties the listed variables to the program's text. Conditions: none beyond what the row itself says.
-/
import Derived.Test.YtaihldljnlgnoaaGreatDoorSmc6
import Derived.Test.YtaihldljnlgnoaaGreatDoorSmc16
import Derived.Test.YtaihldljnlgnoaaGreatDoorSmc19
set_option maxRecDepth 100000
set_option maxHeartbeats 40000000
namespace Go.Proofs.YtaihldljnlgnoaaGreatDoor.V
open Go
section
open Go.RowKit Go.ChangeShapes Go.WideShapes Go.ChangeAt
namespace StatesMove
theorem c02{H:Type}{enc:TypeId×Value->H}{W:World}{base:Nat}{args:Array Value}{ds gs:List (DataW H)}{before:List MemPlace}
 (df:∀(j:Nat) t v,Go.Proofs.Tryz.f5.params[j]?=some t->args[j]?=some v->Value.okWide Go.Proofs.Tryz.prog W .any base t v)
 (hW:DataW.Whole enc Go.Proofs.Tryz.prog Go.Proofs.Tryz.f5.params.toList Rows.statesMoveSpec.vars false W args.toList ds gs before) (hL:laidMetH Go.Proofs.Tryz.prog g1p W):
 Calls Go.Proofs.Tryz.prog 5 args W λe W'=>∃v,e=.returned v/\Rows.statesMoveSpec.post enc Go.Proofs.Tryz.prog Go.Proofs.Tryz.f5 false true false false W args v W':=by
 have Q1:=hW;obtain⟨p,q,O0,hV,rfl,Y1,nj⟩:=Q1;have hA:DataW.TrodAll enc Go.Proofs.Tryz.prog W 0 (λ_=>true) true Go.Proofs.Tryz.f5.params.toList args.toList ds p:=O0;rw[Go.Proofs.Tryz.params5]at hA df;obtain⟨v0,vs0,d0,ds0,p0,q0,jd,rfl,rfl,h0,r0⟩:=trodAll_cons hA;obtain⟨v1,vs1,d1,ds1,p1,q1,rfl,rfl,rfl,h1,r1⟩:=trodAll_cons r0;obtain⟨rfl,rfl,rfl⟩:=trodAll_nil r1;obtain rfl:args= #[v0,v1]:=Array.ext' jd;obtain⟨rfl,rfl⟩:=trodVars_none hV;obtain⟨⟨w,v,l⟩,hx,D0⟩:=arg_s (df 0 _ v0 rfl rfl) h0;obtain⟨⟨a,b,c⟩,hm,D1⟩:=arg_mv (df 1 _ v1 rfl rfl) h1;have hg:=b3t hL;refine(d3j (f92 c5e) ((w,v,l),⟨a,b,c⟩) (d9r hx hm) (vals:=[v0,v1]) hg ⟨rfl,λi s v hs hv=> ?_⟩).mono ?_
 .match i,hs,hv with
  |0,hs,hv=>simp[FSMo]at hs hv;subst hs hv;exact D0
  |1,hs,hv=>simp[FSMo]at hs hv;subst hs hv;exact D1
 .rintro e W' ⟨rfl,bj⟩;exact⟨_,rfl,c7y c4j rfl rfl Go.Proofs.Tryz.underlying4 rfl (by kernel_rfl) hW (b4y bj)⟩
theorem lifted(os:Os)(started:os.Started)(H:Type)(enc:TypeId×Value->H):
 ReturnsInHanded {} Go.Proofs.Tryz.checked os 5 .any (λw args=>(Rows.statesMoveSpec.pre enc Go.Proofs.Tryz.prog Go.Proofs.Tryz.f5 [] false w args/\laidMetH Go.Proofs.Tryz.prog Rows.statesMoveRow.laid w)/\sizedMet enc Go.Proofs.Tryz.prog Go.Proofs.Tryz.f5 (OpenSpec.ofChange Rows.statesMoveSpec) false w args)
  (Rows.statesMoveSpec.post enc Go.Proofs.Tryz.prog Go.Proofs.Tryz.f5 false true false false):=by
 refine returnsInHanded_of_change_and (C:=Go.Proofs.Tryz.checked) (X:=λw _=>laidMetH Go.Proofs.Tryz.prog Rows.statesMoveRow.laid w) (λ_ _ _ hh h=>h.of_heap hh) own started (by kernel_rfl) Go.Proofs.Tryz.func5
  (ChangeSpec.witness_shaped (enc:=enc) (C:=Go.Proofs.Tryz.checked) (os:=os) (X:=λw _=>laidMetH Go.Proofs.Tryz.prog Rows.statesMoveRow.laid w) false (World.doorLaid Go.Proofs.Tryz.prog 1000 os) #[.agg #[.int .u8 0,.int .u8 0,.slice none 0 0],.agg #[.int .u8 0,.int .i64 0,.int .i64 0]] 8 rfl (World.shaped_of_RefB (by kernel_rfl) (by kernel_rfl)) (by kernel_rfl) (by kernel_rfl) (by kernel_rfl) (c0n os _)) ?_
 intro W base args ds gs before df hW _ _ hL _;exact c02 df hW hL
theorem said:Rows.StatesMoveSaid:=
 OpenClaim.holds_of_wide 5 Go.Proofs.Tryz.f5 rfl rfl rfl rfl rfl rfl rfl ⟨rfl,rfl,rfl,rfl,rfl⟩ rfl rfl rfl rfl rfl nmd Go.Proofs.Tryz.func5 facts inst wrap
  (λos started H enc _=>lifted os started H enc)
end StatesMove
end
end Go.Proofs.YtaihldljnlgnoaaGreatDoor.V
namespace Go.Proofs.YtaihldljnlgnoaaGreatDoor
theorem statesMove_card:Rows.StatesMoveCardSaid:=
 Claim7.holds_tied_plain_at .later [] _ _ _ _ V.StatesMove.said (λ_ h=>by cases h) (by kernel_rfl) (λ_ h=>by cases h) statesMove_row_tie rfl ⟨rfl,rfl⟩ (by kernel_rfl) rfl V.StatesMove.plain (by kernel_rfl)
#print axioms statesMove_card
end Go.Proofs.YtaihldljnlgnoaaGreatDoor
