/-
  Parts of the proof: L20. Conditions: none.
-/
import Derived.Test.YtlffhjfkaepimaaGreatDoorGec5
import Derived.Test.YtlffhjfkaepimaaGreatDoorGec16
import Derived.Test.YtlffhjfkaepimaaGreatDoorGec9
set_option maxRecDepth 100000
set_option maxHeartbeats 40000000
namespace Go.Proofs.YtlffhjfkaepimaaGreatDoor.V
open Go
abbrev FEi:=(Int×Int×List (Int×Int×Int))×Int×(Int×Int×Int×Bool)
def Rc:Fam:=⟨FEi,λ((w,h,l),a,(K,C,b,c))=>[.agg (KA w h l),.int .u8 a,.agg [.int .u8 K,.int .i64 C,.int .u8 b,.bool c]],λ((w,h,l),a,(K,C,b,_))=>Ob w h l/\AD .u8 a/\AD .u8 K/\AD .i64 C/\AD .u8 b,λ_=>.bool true⟩
theorem g07{L:List Stk}{n:Nat}(hn:n<=L.length){f:Nat->List SV}(b:∀j,j<n->f j=AA.row L j):AA.lst n f=L.take n:=by
 apply Nx
 .rw[RT.lst_length,Mr];omega
 .intro j a h2;rw[RT.lst_length]at a;have e:(AA.lst n f)[j]'(by rw[RT.lst_length];exact a)=AA.of (f j):=by simp[RT.lst]
  rw[e,b j a];show AA.of (AA.sv (L.getD j AA.d))=_;rw[AA.ok,Jg,Jh Dz,List.getElem_take];rfl
theorem pFE_of(I:PS 10 SL):PS 3 (Pv Rc):=by
 refine con [(10,SL),(5,Ym),(6,RU),(7,Ul),(8,VW),(9,ZA)] (by simpa using⟨I,pSOf,d31,pDo,d0b,f5j⟩) Rc (λ_ _=>none) (Pv Rc) ?_ ?_ Tryz.func3 E1 E1 E1 ?_
 .exact g2r Rc (λ_=>rfl) (λi=>by simp[Rc,KA,BK,SV.le2,SV.le1,BH,SV.le0,HN,Hl])
 .exact C1
 .rintro⟨⟨w,v,l⟩,a,⟨K,C,z,A⟩⟩ ⟨J,M,N,O,o⟩;simp only[AD]at M N O o;have f:=f5z w v l;have P:FH.isL l.length (FH.row l)/\Ob w v (FH.lst l.length (FH.row l)):=⟨FH.isL_row l,by rw[RT.lst_row];exact J⟩
  generalize Q:Pn w v l=S at f;obtain⟨p,r,L⟩:=S;have u:=f.prOK (Jp _);have d:=f.g.stIn;dsimp only at u d;have k:a.tmod 3=0\/a.tmod 3=1\/a.tmod 3=2:=by rw[Kq Dz];omega
  have B:=JK u d;have R:=f.g.pos;dsimp only at R;have T:AA.lst ((L.length:Int)-1-0).toNat (λj=>AA.row L (Int.toNat 0+j))=L.take (L.length-1):=by rw[show ((L.length:Int)-1-0).toNat=L.length-1 from Dz];exact g07 Dz λj _=>by show AA.row L (0+j)=_;rw[L9]
  have U:AA.isL ((L.length:Int)-1-0).toNat (λj=>AA.row L (Int.toNat 0+j)):=λi hi=>RT.isL_row AA L (0+i) Dz;have dw:=b9e (List.take_sublist (L.length-1) L);have E:((MI p.l.length (Eo p.l)/\p.l.length<=100000)/\(∀x∈p.l,AD .u8 x.e)/\0<=r.t/\r.t<=255)/\(AA.isL ((L.length:Int)-1-0).toNat (λj=>AA.row L (Int.toNat 0+j))/\((L.length:Int)-1-0).toNat<=100000/\∀s∈L.take (L.length-1),s.l.length<=100000)/\(∀x∈L.take (L.length-1),AD .u8 x.c.q)/\(BD (L.take (L.length-1))).length<=100000:=
   ⟨B.1,⟨U,by have:=d.1.1;omega,λs h=>d.1.2 s (M4 h)⟩,λs h=>d.2.1 s (M4 h),by have:=d.2.2;omega⟩
  have m:=JK (p:=p) (r:=⟨8,r.x,r.y⟩) (L:=L) ⟨u.1,by show (0:Int)<=8/\(8:Int)<=255;decide⟩ d;have n:=JK (p:=⟨p.W,0,p.l⟩) (r:=r) (L:=L) u d;have F:¬CL p r (L.take (L.length-1))=0:=g18 f.g;have G:¬CL p ⟨8,r.x,r.y⟩ L=0:=f17;have H:¬CL ⟨p.W,0,p.l⟩ r L=0:=f02;have V:decide ((0:Int)=1)=false:=rfl;have X:decide ((1:Int)=0)=false:=rfl;have Y:decide ((2:Int)=0)=false:=rfl;have Z:decide ((2:Int)=1)=false:=rfl;have b:∀(p:Pt) (r:Mv) (L:List Stk),¬CL p r L=0->CQ K C z A p r L=CL p r L/\(zL (CL p r L) (GP K C z A L)).length=0/\(zL (CL p r L) (EQ p r)).length=0/\(zL (CL p r L) (GG (EQ p r))).length=0:=λp r L h=>⟨f8r h,d77 h,d77 h,d77 h⟩
  have k1:=b _ _ _ F;have k2:=b _ _ _ G;have k3:=b _ _ _ H;clear b;rcases k with k|k|k;all_goals
   all_goals refine X0a _ ?_;(repeat' first|constructor|intro h)<;>refine Lm ?_
   all_goals(try simp only[Q,k,V,X,Y,Z,decide_true,Bool.true_eq_false,Bool.false_eq_true,CE,RT.lst_row,IV,IM,T]at*)
   all_goals(try first
    |exact P
    |exact B
    |exact E
    |exact m
    |exact n
    |exact⟨E,o.1⟩
    |exact⟨m,o.1⟩
    |exact⟨n,o.1⟩
    |exact Ap
    |exact B8
    |(simp[k1.1,k1.2.1,k1.2.2.1,k1.2.2.2,F,AD];done)
    |(simp[k2.1,k2.2.1,k2.2.2.1,k2.2.2.2,G,AD];done)
    |(simp[k3.1,k3.2.1,k3.2.2.1,k3.2.2.2,H,AD];done))
theorem f8x{q:Int×Int×List (Int×Int×Int)}{a:Int}{f:Int×Int×Int×Bool}(h:Ob q.1 q.2.1 q.2.2)(b:AD .u8 a)(c:AD .u8 f.1/\AD .i64 f.2.1/\AD .u8 f.2.2.1):Rc.pre (q,a,f):=⟨h,b,c⟩
end Go.Proofs.YtlffhjfkaepimaaGreatDoor.V
