/-
  StatesKinds returns true for every input, and leaves its arguments as they were: the row, and the card that ties the listed variables to the program's text. Conditions: none beyond what the row itself says.
-/
import Derived.Test.YtaihldljnlgnoaaGreatDoorSkc18
import Derived.Test.YtaihldljnlgnoaaGreatDoorSkc20
import Derived.Test.YtaihldljnlgnoaaGreatDoorSkc25
import Derived.Test.YtaihldljnlgnoaaGreatDoorSkc26
set_option maxRecDepth 100000
set_option maxHeartbeats 40000000
namespace Go.Proofs.YtaihldljnlgnoaaGreatDoor.V
open Go
section
open Go.RowKit Go.ChangeShapes Go.WideShapes Go.ChangeAt
namespace StatesKinds
theorem b9y{H:Type}{enc:TypeId×Value->H}{W:World}{base:Nat}{args:Array Value}{ds gs:List (DataW H)}{before:List MemPlace}
 (de:∀(j:Nat) t v,Go.Proofs.Tryz.f4.params[j]?=some t->args[j]?=some v->Value.okWide Go.Proofs.Tryz.prog W .any base t v)
 (hW:DataW.Whole enc Go.Proofs.Tryz.prog Go.Proofs.Tryz.f4.params.toList Rows.statesKindsSpec.vars false W args.toList ds gs before) (hL:laidMetH Go.Proofs.Tryz.prog g1k W):
 Calls Go.Proofs.Tryz.prog 4 args W λe W'=>∃v,e=.returned v/\Rows.statesKindsSpec.post enc Go.Proofs.Tryz.prog Go.Proofs.Tryz.f4 false true false false W args v W':=by
 have Q4:=hW;obtain⟨p,q,O2,hV,rfl,Y3,ny⟩:=Q4;have hA:DataW.TrodAll enc Go.Proofs.Tryz.prog W 0 (λ_=>true) true Go.Proofs.Tryz.f4.params.toList args.toList ds p:=O2;rw[Go.Proofs.Tryz.params4]at hA de;obtain⟨v0,vs0,d0,ds0,p0,q0,jh,rfl,rfl,h0,r0⟩:=trodAll_cons hA;obtain⟨v1,vs1,d1,ds1,p1,q1,rfl,rfl,rfl,h1,r1⟩:=trodAll_cons r0;obtain⟨rfl,rfl,rfl⟩:=trodAll_nil r1;obtain rfl:args= #[v0,v1]:=Array.ext' jh;obtain⟨rfl,rfl⟩:=trodVars_none hV;obtain⟨⟨w,v,l⟩,hx,D0⟩:=arg_s (de 0 _ v0 rfl rfl) h0;obtain⟨a,ha,rfl⟩:=f64 (de 1 _ v1 rfl rfl) h1;have hg:=b3t hL;refine(d3t (f5v c5e) ((w,v,l),a) (f1t hx ha) (vals:=[v0,.int .u64 a]) hg ⟨rfl,λi s v hs hv=> ?_⟩).mono ?_
 .match i,hs,hv with
  |0,hs,hv=>simp[FSKi]at hs hv;subst hs hv;exact D0
  |1,hs,hv=>simp[FSKi]at hs hv;subst hs hv;exact .int
 .rintro e W' ⟨rfl,bj⟩;exact⟨_,rfl,c88 c4k rfl rfl Go.Proofs.Tryz.underlying4 rfl (by kernel_rfl) hW (b51 bj)⟩
theorem lifted(os:Os)(started:os.Started)(H:Type)(enc:TypeId×Value->H):
 ReturnsInHanded {} Go.Proofs.Tryz.checked os 4 .any (λw args=>(Rows.statesKindsSpec.pre enc Go.Proofs.Tryz.prog Go.Proofs.Tryz.f4 [] false w args/\laidMetH Go.Proofs.Tryz.prog Rows.statesKindsRow.laid w)/\sizedMet enc Go.Proofs.Tryz.prog Go.Proofs.Tryz.f4 (OpenSpec.ofChange Rows.statesKindsSpec) false w args)
  (Rows.statesKindsSpec.post enc Go.Proofs.Tryz.prog Go.Proofs.Tryz.f4 false true false false):=by
 refine returnsInHanded_of_change_and (C:=Go.Proofs.Tryz.checked) (X:=λw _=>laidMetH Go.Proofs.Tryz.prog Rows.statesKindsRow.laid w) (λ_ _ _ hh h=>h.of_heap hh) own started (by kernel_rfl) Go.Proofs.Tryz.func4
  (ChangeSpec.witness_shaped (enc:=enc) (C:=Go.Proofs.Tryz.checked) (os:=os) (X:=λw _=>laidMetH Go.Proofs.Tryz.prog Rows.statesKindsRow.laid w) false (World.doorLaid Go.Proofs.Tryz.prog 1000 os) #[.agg #[.int .u8 0,.int .u8 0,.slice none 0 0],.int .u64 0] 8 rfl (World.shaped_of_RefB (by kernel_rfl) (by kernel_rfl)) (by kernel_rfl) (by kernel_rfl) (by kernel_rfl) (c0k os _)) ?_
 intro W base args ds gs before de hW _ _ hL _;exact b9y de hW hL
theorem said:Rows.StatesKindsSaid:=
 OpenClaim.holds_of_wide 4 Go.Proofs.Tryz.f4 rfl rfl rfl rfl rfl rfl rfl ⟨rfl,rfl,rfl,rfl,rfl⟩ rfl rfl rfl rfl rfl nmd Go.Proofs.Tryz.func4 facts inst wrap
  (λos started H enc _=>lifted os started H enc)
end StatesKinds
end
end Go.Proofs.YtaihldljnlgnoaaGreatDoor.V
namespace Go.Proofs.YtaihldljnlgnoaaGreatDoor
theorem statesKinds_card:Rows.StatesKindsCardSaid:=
 Claim7.holds_tied_plain_at .later [] _ _ _ _ V.StatesKinds.said (λ_ h=>by cases h) (by kernel_rfl) (λ_ h=>by cases h) statesKinds_row_tie rfl ⟨rfl,rfl⟩ (by kernel_rfl) rfl V.StatesKinds.plain (by kernel_rfl)
#print axioms statesKinds_card
end Go.Proofs.YtaihldljnlgnoaaGreatDoor
