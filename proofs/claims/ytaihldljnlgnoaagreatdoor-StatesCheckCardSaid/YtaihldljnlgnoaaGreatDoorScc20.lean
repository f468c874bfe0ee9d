/-
  StatesCheck returns true for every input, and leaves its arguments as they were: the row, and the card that ties the listed variables to the program's text. Conditions: none beyond what the row itself says.
-/
import Derived.Test.YtaihldljnlgnoaaGreatDoorScc6
import Derived.Test.YtaihldljnlgnoaaGreatDoorScc18
import Derived.Test.YtaihldljnlgnoaaGreatDoorScc19
set_option maxRecDepth 100000
set_option maxHeartbeats 40000000
namespace Go.Proofs.YtaihldljnlgnoaaGreatDoor.V
open Go
section
open Go.RowKit Go.ChangeShapes Go.WideShapes Go.ChangeAt
namespace StatesCheck
theorem f0w{H:Type}{enc:TypeId×Value->H}{W:World}{base:Nat}{args:Array Value}{ds gs:List (DataW H)}{before:List MemPlace}
 (fk:∀(j:Nat) t v,Go.Proofs.Tryz.f7.params[j]?=some t->args[j]?=some v->Value.okWide Go.Proofs.Tryz.prog W .any base t v)
 (hW:DataW.Whole enc Go.Proofs.Tryz.prog Go.Proofs.Tryz.f7.params.toList Rows.statesCheckSpec.vars false W args.toList ds gs before) (hL:laidMetH Go.Proofs.Tryz.prog laidL W):
 Calls Go.Proofs.Tryz.prog 7 args W λe W'=>∃v,e=.returned v/\Rows.statesCheckSpec.post enc Go.Proofs.Tryz.prog Go.Proofs.Tryz.f7 false true false false W args v W':=by
 have O0:=hW;obtain⟨p,q,hA0,hV,rfl,hfz,nj⟩:=O0;have hA:DataW.TrodAll enc Go.Proofs.Tryz.prog W 0 (λ_=>true) true Go.Proofs.Tryz.f7.params.toList args.toList ds p:=hA0;rw[Go.Proofs.Tryz.params7]at hA fk;obtain⟨v0,vs0,d0,ds0,p0,q0,m9,rfl,rfl,h0,r0⟩:=trodAll_cons hA;obtain⟨v1,vs1,d1,ds1,p1,q1,rfl,rfl,rfl,h1,r1⟩:=trodAll_cons r0;obtain⟨rfl,rfl,rfl⟩:=trodAll_nil r1;obtain rfl:args= #[v0,v1]:=Array.ext' m9;obtain⟨rfl,rfl⟩:=trodVars_none hV;obtain⟨⟨w,v,l⟩,hx,D0⟩:=arg_s (fk 0 _ v0 rfl rfl) h0;obtain⟨spoil,hspoil,D1⟩:=f6k (fk 1 _ v1 rfl rfl) h1;have hg:=c1w hL;refine(f43 (f8j d87) ((w,v,l),spoil) (d9a hx hspoil) (vals:=[v0,v1]) hg ⟨rfl,λi s v hs hv=> ?_⟩).mono ?_
 .match i,hs,hv with
  |0,hs,hv=>simp[FSCk]at hs hv;subst hs hv;exact D0
  |1,hs,hv=>simp[FSCk]at hs hv;subst hs hv;exact D1
 .rintro e W' ⟨rfl,bk⟩;exact⟨_,rfl,f16 d50 rfl rfl Go.Proofs.Tryz.underlying4 rfl (by kernel_rfl) hW (c3n bk)⟩
theorem lifted(os:Os)(started:os.Started)(H:Type)(enc:TypeId×Value->H):
 ReturnsInHanded {} Go.Proofs.Tryz.checked os 7 .any (λw args=>(Rows.statesCheckSpec.pre enc Go.Proofs.Tryz.prog Go.Proofs.Tryz.f7 [] false w args/\laidMetH Go.Proofs.Tryz.prog Rows.statesCheckRow.laid w)/\sizedMet enc Go.Proofs.Tryz.prog Go.Proofs.Tryz.f7 (OpenSpec.ofChange Rows.statesCheckSpec) false w args)
  (Rows.statesCheckSpec.post enc Go.Proofs.Tryz.prog Go.Proofs.Tryz.f7 false true false false):=by
 refine returnsInHanded_of_change_and (C:=Go.Proofs.Tryz.checked) (X:=λw _=>laidMetH Go.Proofs.Tryz.prog Rows.statesCheckRow.laid w) (λ_ _ _ hh h=>h.of_heap hh) own started (by kernel_rfl) Go.Proofs.Tryz.func7
  (ChangeSpec.witness_shaped (enc:=enc) (C:=Go.Proofs.Tryz.checked) (os:=os) (X:=λw _=>laidMetH Go.Proofs.Tryz.prog Rows.statesCheckRow.laid w) false (World.doorLaid Go.Proofs.Tryz.prog 1000 os) #[.agg #[.int .u8 0,.int .u8 0,.slice none 0 0],.slice none 0 0] 8 rfl (World.shaped_of_RefB (by kernel_rfl) (by kernel_rfl)) (by kernel_rfl) (by kernel_rfl) (by kernel_rfl) (f23 os _)) ?_
 intro W base args ds gs before fk hW _ _ hL _;exact f0w fk hW hL
theorem said:Rows.StatesCheckSaid:=
 OpenClaim.holds_of_wide 7 Go.Proofs.Tryz.f7 rfl rfl rfl rfl rfl rfl rfl ⟨rfl,rfl,rfl,rfl,rfl⟩ rfl rfl rfl rfl rfl nmd Go.Proofs.Tryz.func7 facts inst wrap
  (λos started H enc _=>lifted os started H enc)
end StatesCheck
end
end Go.Proofs.YtaihldljnlgnoaaGreatDoor.V
namespace Go.Proofs.YtaihldljnlgnoaaGreatDoor
theorem statesCheck_card:Rows.StatesCheckCardSaid:=
 Claim7.holds_tied_plain_at .later [] _ _ _ _ V.StatesCheck.said (λ_ h=>by cases h) (by kernel_rfl) (λ_ h=>by cases h) statesCheck_row_tie rfl ⟨rfl,rfl⟩ (by kernel_rfl) rfl V.StatesCheck.plain (by kernel_rfl)
#print axioms statesCheck_card
end Go.Proofs.YtaihldljnlgnoaaGreatDoor
