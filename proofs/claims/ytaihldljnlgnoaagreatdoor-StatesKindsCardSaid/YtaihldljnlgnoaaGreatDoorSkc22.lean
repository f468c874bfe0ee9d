/-
  Parts of the proof: Y22. Conditions: none.
-/
import Derived.Test.YtaihldljnlgnoaaGreatDoorSkc11
import Derived.Test.YtaihldljnlgnoaaGreatDoorSkc12
set_option maxRecDepth 100000
set_option maxHeartbeats 40000000
namespace Go.Proofs.YtaihldljnlgnoaaGreatDoor.V
open Go
def d9n:HK:=λc own=>match c,own with
 | [.agg [.int .i64 W,.int .i64 H,.osl 0,.int .u8 t,.int .i64 a,.int .i64 b,.osl 1]],[.row T 3 n f _,.row S 4 m g _]=>if T=51/\S=CG then some ⟨(BK.isL n f/\AA.isL m g)/\(prOK ⟨W,H,BK.lst n f⟩ ⟨t,a,b⟩/\EG (AA.lst m g))/\Bo ⟨W,H,BK.lst n f⟩ ⟨t,a,b⟩=0,f0b ⟨W,H,BK.lst n f⟩ ⟨t,a,b⟩,MP ⟨W,H,BK.lst n f⟩ (AA.lst m g),[]⟩else none
 |_,_=>none
def FHLn28:FamH:=⟨Pt×Mv×List Stk,λ(p,r,_)=>[Oo p r],λ(p,_,L)=>MP p L,λ(p,r,L)=>(prOK p r/\EG L)/\Bo p r=0,λ(p,r,_)=>f0b p r,λ(p,_,L)=>MP p L,[]⟩
def lhEn(p:Pt)(r:Mv)(i:Nat)(a:List Entry):List Entry:=a++[⟨5,none,.int .i64 i⟩,⟨4,none,.sl 2 (CA ((AO p r).take i)).length (FB.row (CA ((AO p r).take i))) none⟩,⟨3,none,.sl 4 (AO p r).length (CH.row (AO p r)) none⟩,⟨1,none,.own 2 0⟩]
def lhOw(p:Pt)(r:Mv)(L:List Stk)(a:List Blk):List Blk:=MP p L++ .cells 34 [.int .i64 p.W,.int .i64 p.H,.osl 0,.int .u8 r.t,.int .i64 r.x,.int .i64 r.y,.osl 1]::a
def IHLn28:Pt×Mv×List Stk->Nat->Option Inv
 |(p,r,L),4=>some {β:=Nat,ok:=λi=>i<=(AO p r).length,st:=λi=>⟨lhEn p r i [],lhOw p r L []⟩,μ:=λi=>(AO p r).length-i,sub:=λi=>some fun
  |8=>some {β:=Nat,ok:=λk=>(i<(AO p r).length/\k<=(CA ((AO p r).take i)).length)/\∀j,j<k->IF ((CA ((AO p r).take i)).getD j FB.d) (GW ((AO p r).getD i CH.d))=true,st:=λk=>⟨lhEn p r i [⟨7,none,.int .i64 k⟩,⟨6,none,.own 3 0⟩],lhOw p r L [.cells 71 [.int .u8 ((AO p r).getD i CH.d).K,.int .i64 ((AO p r).getD i CH.d).C]]⟩,μ:=λk=>(CA ((AO p r).take i)).length-k}
  |_=>none}
 |_,_=>none
theorem pHLn28:HS 29 d9n:=by
 refine FU {fs:=[(66,Tg)],fsok:=by simpa using f50,gr:=λid=>bif Nat.beq id 11 then [.orders,.fz 4,.fz 5]else []} ⟨Dz,Dz,Dz⟩ FHLn28 IHLn28 d9n ?_ ?_ ?_ Tryz.func29 Dy Dy Dy ?_
 .intro args own s h O;unfold d9n at h;split at h
  .rename_i W H t a b T n f c1 S m g c2;split at h
   .rename_i P;obtain⟨rfl,rfl⟩:=P;cases h;obtain⟨⟨Q,R⟩,U,V⟩:=O;exact⟨(⟨W,H,BK.lst n f⟩,⟨t,a,b⟩,AA.lst m g),⟨by simp[Oo,SV.le2,SV.le1,BM,SV.le0],Ja⟩,rfl,⟨⟨Eg,(RT.lst_length BK n f).symm,Ja,RT.row_isL BK Q⟩,⟨Eg,(RT.lst_length AA m g).symm,Ja,RT.row_isL AA R⟩,Ja⟩,⟨U,V⟩,rfl,rfl,rfl⟩
   .cases h
  .cases h
 .exact By
 .exact Cf
 .rintro⟨p,r,L⟩ μ ⟨⟨⟨⟨X,Y⟩,Z⟩,A⟩,B⟩;have hs:=(FI (Sg B).1).1;have pg:DZ p.l.length (BK.row p.l)=p.l:=CI p.l;have hN:=CF hs;have ba:(AO p r).length<=1000000:=by
   have:=@c43 p (AL p r) (3*AG p.W p.H);have hw:=HB hs;show (GL p (AL p r) (3*AG p.W p.H)).length<=_;omega
  refine X0a _ ?_;(repeat' first|constructor|intro h)<;>refine Lm ?_
  all_goals(try simp only[pg,RT.lst_row,Jo,JS]at*)
  all_goals(try exact⟨⟨⟨⟨Do _,X⟩,Y,Z⟩,MH L A.1,A.2⟩,B⟩)
  refine⟨(0:Nat),Jj _,?_,?_⟩
  .exact X2f
  .intro i E;replace E:i<=(AO p r).length:=E;refine X0b _ ?_;(repeat' first|constructor|intro h)<;>refine Lm ?_
   all_goals(try simp only[If]at*)
   all_goals(try first
    |exact Ak)
   .have w:i<(AO p r).length:=Dx;have e0:=@c85 (AO p r) i CH.d w;have jx:(CA ((AO p r).take i)).length<=1000000:=by
     have:=d6b ((AO p r).take i);rw[Mj]at this;omega
    refine⟨(0:Nat),⟨⟨w,Jj _⟩,λj F=>absurd F (Jv _)⟩,?_,?_⟩
    .exact X2b
    .intro k y;replace y:(i<(AO p r).length/\k<=(CA ((AO p r).take i)).length)/\∀j,j<k->IF ((CA ((AO p r).take i)).getD j FB.d) (GW ((AO p r).getD i CH.d))=true:=y;obtain⟨⟨_,k1⟩,k2⟩:=y;have z:=c0h (x:=GW ((AO p r).getD i CH.d)) (CA ((AO p r).take i)) k k1 k2;have G:(GW ((AO p r).getD i CH.d)).1=((AO p r).getD i CH.d).K:=rfl;have I:(GW ((AO p r).getD i CH.d)).2=((AO p r).getD i CH.d).C:=rfl;by_cases v:k<(CA ((AO p r).take i)).length/\IF ((CA ((AO p r).take i)).getD k FB.d) (GW ((AO p r).getD i CH.d))=true
     .obtain⟨pw,J⟩:=v;have M:=Wc.1 J;rw[G,I]at M;clear z;refine X0b _ ?_;(repeat' first|constructor|intro h)<;>refine Lm ?_
      all_goals(try simp only[If,Ik,Iq,Ig,Mr]at*)
      all_goals(try first
       |exact Bj)
      refine⟨k+1,⟨⟨w,Dx⟩,λj F=> ?_⟩,F9,?_⟩
      .by_cases e:j=k
       .subst e;exact J
       .exact k2 j Dx
      .exact X2g
     .have M:¬(k<(CA ((AO p r).take i)).length/\(((CA ((AO p r).take i)).getD k FB.d).1<((AO p r).getD i CH.d).K\/((CA ((AO p r).take i)).getD k FB.d).1=((AO p r).getD i CH.d).K/\((CA ((AO p r).take i)).getD k FB.d).2<((AO p r).getD i CH.d).C)):=λq=>v ⟨q.1,Wc.2 (by rw[G,I];exact q.2)⟩;have o:=z λq h=>v ⟨q,h⟩;rw[<-e0]at o;clear z k2 v;by_cases u:k<(CA ((AO p r).take i)).length/\(CA ((AO p r).take i)).getD k FB.d=GW ((AO p r).getD i CH.d)
      .rw[J7 u]at o;obtain⟨t6,N⟩:=u;have Zw:((CA ((AO p r).take i)).getD k FB.d).1=((AO p r).getD i CH.d).K:=by rw[N];rfl
       have hd4:((CA ((AO p r).take i)).getD k FB.d).2=((AO p r).getD i CH.d).C:=by rw[N];rfl
       refine X0b _ ?_;(repeat' first|constructor|intro h)<;>refine Lm ?_
       all_goals(try simp only[If,Ik,Iq,Ig,Mr]at*)
       all_goals(try first
        |exact Bj)
       refine⟨i+1,Ec,Ea,?_⟩;all_goals refine X0b _ ?_;(repeat' first|constructor|intro h)<;>refine Lm ?_
       all_goals first|rfl|(rw[o];done)|(rw[o];exact λ_ _=>.inl rfl)|exact A5|omega|skip
      .rw[J8 u]at o;have Zw:¬(k<(CA ((AO p r).take i)).length/\((CA ((AO p r).take i)).getD k FB.d).1=((AO p r).getD i CH.d).K/\((CA ((AO p r).take i)).getD k FB.d).2=((AO p r).getD i CH.d).C):=λq=>u ⟨q.1,Prod.ext q.2.1 q.2.2⟩;clear u;refine X0b _ ?_;(repeat' first|constructor|intro h)<;>refine Lm ?_
       all_goals(try simp only[If,Ik,Iq,Ig,Mr]at*)
       all_goals(try first
        |exact Bj
        |exact B5
        |exact A8)
       all_goals
        refine⟨i+1,Ec,Ea,?_⟩;all_goals refine X0b _ ?_;(repeat' first|constructor|intro h)<;>refine Lm ?_
        all_goals(try first|exact Ay)
        all_goals rw[o]
        all_goals first
         |exact f2y k1
         |exact λ_ h=>f51 rfl k1 h
         |skip
   all_goals(try exact λ_ _=>.inl rfl)
   all_goals
    have ei:i=(AO p r).length:=Dx;rw[ei,L8];first|exact Ay|skip
end Go.Proofs.YtaihldljnlgnoaaGreatDoor.V
