/-
  Parts of the proof: Y21. Conditions: none.
-/
import Derived.Test.YtaihldljnlgnoaaGreatDoorSkc9
import Derived.Test.YtaihldljnlgnoaaGreatDoorSkc11
import Derived.Test.YtaihldljnlgnoaaGreatDoorSkc13
import Derived.Test.YtaihldljnlgnoaaGreatDoorSkc22
set_option maxRecDepth 100000
set_option maxHeartbeats 40000000
namespace Go.Proofs.YtaihldljnlgnoaaGreatDoor.V
open Go
def hSOf:HK:=λa own=>match a,own with
 | [x],[]=>(WM x).map λq=>⟨q.1,Oo (GK q.2.1 q.2.2.1 q.2.2.2).1 (GK q.2.1 q.2.2.1 q.2.2.2).2.1,MP (GK q.2.1 q.2.2.1 q.2.2.2).1 (GK q.2.1 q.2.2.1 q.2.2.2).2.2,[]⟩
 |_,_=>none
def FHSOf:FamH:=⟨Int×Int×List (Int×Int×Int),λ(w,h,l)=>[.agg (GE w h l)],λ_=>[],λ(w,h,l)=>MI w h l,λ(w,h,l)=>Oo (GK w h l).1 (GK w h l).2.1,λ(w,h,l)=>MP (GK w h l).1 (GK w h l).2.2,[]⟩
def IHSOf:Int×Int×List (Int×Int×Int)->Nat->Option Inv
 |(w,h,l),3=>some {β:=Nat×HU,ok:=λ(i,s)=>(i<=l.length/\i<=5)/\SOK s i/\((l.take 5).drop i).foldl IB s=GK w h l,st:=λ(i,s)=>⟨[⟨4,none,.int .i64 i⟩,⟨3,none,.own 3 0⟩,⟨2,none,.own 1 0⟩,⟨1,none,.own 0 0⟩],[.cells 24 (GE w h l),.cells 34 [.int .i64 0,.int .i64 0,.con (.slice none 0 0),.int .u8 0,.int .i64 0,.int .i64 0,.con (.slice none 0 0)],.row CG 4 s.2.2.length (AA.row s.2.2) none,.cells 34 [.int .i64 s.1.W,.int .i64 s.1.H,.osl 4,.int .u8 s.2.1.t,.int .i64 s.2.1.x,.int .i64 s.2.1.y,.osl 2],.row 51 3 s.1.l.length (BK.row s.1.l) none]⟩,μ:=λ(i,_)=>l.length-i,nl:=[.cell 3 2 51 3]}
 |_,_=>none
theorem pHSOf:HS 9 hSOf:=by
 refine FU {h:=[(28,d9s),(29,d9n),(30,UU)],c2:=true,fz:=λd=>Nat.beq d 63,gr:=λid=>bif Nat.beq id 7 then [.sel [0,1,6,3,5]]else [],G:={gx:=λ_=>[.sel [4,2,1]]}} ⟨Dz,Dz,by simpa using⟨f3m,pHLn28,d5w⟩⟩ FHSOf IHSOf hSOf ?_ ?_ ?_ Tryz.func9 Dy Dy Dy ?_
 .intro args own s h C;unfold hSOf at h;split at h
  .rename_i x;simp only[Jc]at h;obtain⟨⟨q,w,E,l⟩,hx,rfl⟩:=h;obtain⟨j,u⟩:=f4h hx C;exact⟨(w,E,l),⟨j,Ja⟩,rfl,Ja,u,rfl,rfl,rfl⟩
  .cases h
 .exact By
 .intro i;show 0<=2;decide
 .rintro⟨w,v,l⟩ μ ⟨⟨F,w2⟩,⟨H,v2⟩,I⟩;have hx:=g04 w v;have J:AP (1+w%4) (1+v%4)=0:=hx.g.hs;have K:=Jy (b:=4) F;have M:=Jy (b:=4) H;refine X0a _ ?_;(repeat' first|constructor|intro h)<;>refine Lm ?_
  all_goals(try simp only[K,M]at*)
  all_goals(try first
   |exact J
   |exact Ak)
  refine⟨((0:Nat),Wn w v),⟨⟨Jj _,Jj _⟩,hx,rfl⟩,?_,?_⟩
  .refine X0b _ ?_;(repeat' first|constructor|intro h)<;>refine Lm ?_
   all_goals first|exact Ay|exact λ_ h=>absurd h (Jv _)|skip
  .rintro⟨i,⟨p,r,L⟩⟩ m;replace m:(i<=l.length/\i<=5)/\SOK (p,r,L) i/\((l.take 5).drop i).foldl IB (p,r,L)=GK w v l:=m;obtain⟨⟨i1,n⟩,X,y⟩:=m;have hg:=X.g;have s4:=c2w (i:=i) n;have cq:=QF (X.prOK n) hg.stIn;have z:=(hg.places Dx).1;dsimp only at hg cq z;have N:DZ p.l.length (BK.row p.l)=p.l:=CI p.l;have O:∀a b c:Int,[a,b,c].getD (Int.toNat 0) 0=a:=λ_ _ _=>rfl;have P:∀a b c:Int,[a,b,c].getD (Int.toNat 1) 0=b:=λ_ _ _=>rfl;have Q:∀a b c:Int,[a,b,c].getD (Int.toNat 2) 0=c:=λ_ _ _=>rfl;have A:i<l.length->MQ (l.getD i DQ.d).1/\MQ (l.getD i DQ.d).2.1/\MQ (l.getD i DQ.d).2.2:=λh=>I _ (CP h);have o:(¬(i<l.length/\i<5))\/CA (AO p r)=[]->(p,r,L)=GK w v l:=λh=>by
    rw[<-y];rcases h with h|h
    .rw[List.drop_eq_nil_of_le Ej];rfl
    .exact(c54 _ _ (show MV (p,r,L)=[]from h)).symm
   have Tv:i<l.length->i<5->((l.take 5).drop (i+1)).foldl IB (IB (p,r,L) (l.getD i DQ.d))=GK w v l:=λj u=>by rw[<-y,List.drop_eq_getElem_cons (i:=i) Ej];rw[M3,List.getElem_take,J5,J6 j];rfl
   refine X0b _ ?_;(repeat' first|constructor|intro h)<;>refine Lm ?_
   all_goals(try simp only[N,RT.lst_row,Jo,JS,O,P,Q,If,Ik]at*)
   all_goals(try first
    |exact⟨⟨RT.isL_row _ _,RT.isL_row _ _⟩,⟨X.prOK n,hg.stIn⟩,z⟩
    |exact B8
    |(have q:=A Dx;unfold MQ at q;simp only[AD];omega))
   all_goals(try(
    have e:=o (by first|exact .inl Dx|exact .inr (Lj.1 Dx));rw[<-e];all_goals first|exact Ay))
   all_goals
    have t:i<l.length:=Dx;have R:i<5:=Dx;have B:MV (p,r,L)≠[]:=λe=>by have e2:(CA (AO p r)).length=0:=Mf List.length e;omega
    obtain⟨⟨F1,_⟩,⟨S,_⟩,⟨T,_⟩⟩:=A t;have U:=Jy (b:=((CA (AO p r)).length:Int)) F1;have V:=Jy (b:=2) S;have W:=Jy (b:=2) T;have m1:=Mc (l.getD i DQ.d).1 (b:=((CA (AO p r)).length:Int)) Dx;have m2:=M4 (l.getD i DQ.d).1 (b:=((CA (AO p r)).length:Int)) Dx;have Y:=(d3n X).1 (c3j (s:=(p,r,L)) (a:=(l.getD i DQ.d).1) B);obtain⟨hK,hC⟩:=on_bd hg Y;have Z:IB (p,r,L) (l.getD i DQ.d)=Sd (p,r,L) (Tq (p,r,L) (l.getD i DQ.d).1).1 (Tq (p,r,L) (l.getD i DQ.d).1).2 ((l.getD i DQ.d).2.1%2) (decide ((l.getD i DQ.d).2.2%2=1)):=by unfold IB;rw[J8 B]
    have hX:=X.next (f:=l.getD i DQ.d) Dx;have wd:=Tv t R;simp only[U,V,W]
   all_goals first
    |exact B9
    |(refine⟨(i+1,IB (p,r,L) (l.getD i DQ.d)),⟨⟨t,by show i+1<=5;omega⟩,hX,wd⟩,by show l.length-(i+1)<l.length-i;omega,?_⟩
      rw[Z];all_goals refine X0b _ ?_;(repeat' first|constructor|intro h)<;>refine Lm ?_
      all_goals first
       |exact Ay
       |skip)
    |skip
end Go.Proofs.YtaihldljnlgnoaaGreatDoor.V
