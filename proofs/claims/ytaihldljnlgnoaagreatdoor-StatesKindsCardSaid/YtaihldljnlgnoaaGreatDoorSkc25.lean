/-
  Parts of the proof: L28. Conditions: none.
-/
import Derived.Test.YtaihldljnlgnoaaGreatDoorSkc7
import Derived.Test.YtaihldljnlgnoaaGreatDoorSkc13
import Derived.Test.YtaihldljnlgnoaaGreatDoorSkc15
import Derived.Test.YtaihldljnlgnoaaGreatDoorSkc16
import Derived.Test.YtaihldljnlgnoaaGreatDoorSkc21
import Derived.Test.YtaihldljnlgnoaaGreatDoorSkc23
import Derived.Test.YtaihldljnlgnoaaGreatDoorSkc24
set_option maxRecDepth 100000
set_option maxHeartbeats 40000000
namespace Go.Proofs.YtaihldljnlgnoaaGreatDoor.V
open Go
def FSKi:Fam:=⟨(Int×Int×List (Int×Int×Int))×Int,λ((w,h,l),a)=>[.agg (GE w h l),.int .u64 a],λ((w,h,l),a)=>MI w h l/\AD .u64 a,λ_=>.bool true⟩
section
variable{w h:Int}{l:List (Int × Int × Int)}{p:Pt}{r:Mv}{L:List Stk}
def hSO1(x:SV)(p:Pt)(r:Mv)(L:List Stk):HK:=λa own=>match a,own with
 | [y],[]=>some ⟨y=x,Oo p r,MP p L,[]⟩
 |_,_=>none
theorem pSO1(hx:MI w h l)(e:GK w h l=(p,r,L)):HS 9 (hSO1 (.agg (GE w h l)) p r L):=f3r pHSOf λargs own t a b=>by
 unfold hSO1 at a;split at a
 .cases a;subst b;obtain⟨q,c,d⟩:=f57 w h l hx;refine⟨⟨q,Oo p r,MP p L,[]⟩,?_,d,rfl,rfl,rfl⟩;unfold hSOf;simp only[c,Kh,e]
 .cases a
def FE(b:Nat->Bool)(i:Nat)(l:List Cr):List Cr:=l.mapIdx λj c=>if j<i/\b j=true then⟨c.c,c.e,3⟩else c
theorem anyC_0{b:Nat->Bool}{l:List Cr}:FE b 0 l=l:=by
 unfold FE;apply N8
 .simp
 .intro j h1 h2;simp
theorem c9c{b:Nat->Bool}{i:Nat}{l:List Cr}:(FE b i l).length=l.length:=by simp[FE]
theorem Te{b:Nat->Bool}{i j:Nat}{l:List Cr}(h:j<l.length):(FE b i l).getD j d0=if j<i/\b j=true then⟨(l.getD j d0).c,(l.getD j d0).e,3⟩else l.getD j d0:=by unfold FE;rw[J5,List.getElem?_mapIdx,J6 h,J5,J6 h];rfl
theorem f3k{b:Nat->Bool}:AnyOf p ⟨p.W,p.H,FE b p.l.length p.l⟩:=⟨rfl,rfl,c9c,λi a=>by
 show ((FE b p.l.length p.l).getD i d0).c=_/\((FE b p.l.length p.l).getD i d0).e=_/\_;rw[Te a];split
 .exact⟨rfl,rfl,.inr rfl⟩
 .exact⟨rfl,rfl,.inl rfl⟩⟩
def FP(a:Int)(j:Nat):Bool:=decide (a/2^((j:Int).tmod 64).toNat%2=1)
theorem f9q{a:Int}{i:Nat}{l:List Cr}(hi:i<l.length)(h:decide (a/2^((i:Int).tmod 64).toNat%2=1)=true)(j:Nat)(b:j<l.length):Fl (Bl (decide (j=i)) (over (BK.row (FE (FP a) i l) i) 2 [Vx (Value.int .u8 3)]) (BK.row (FE (FP a) i l) j)) (BK.row (FE (FP a) (i+1) l) j):=.inl (by
 have c:∀k,BK.row (FE (FP a) k l) j=BK.sv ((FE (FP a) k l).getD j d0):=λ_=>rfl;by_cases e:j=i
 .subst e;rw[c,c,Te b,Te b,Jr rfl,J8 (λq=>Lz _ q.1),J7 ⟨N7 _,h⟩];rfl
 .rw[c,c,Te b,Te b,Jq e];by_cases q:j<i/\FP a j=true
  .rw[J7 q,J7 ⟨Dx,q.2⟩];rfl
  .rw[J8 q,J8 (λz=>q ⟨Dx,z.2⟩)];rfl)
theorem any_no{a:Int}{i:Nat}{l:List Cr}(h:decide (a/2^((i:Int).tmod 64).toNat%2=1)=false)(j:Nat)(c:j<l.length):Fl (BK.row (FE (FP a) i l) j) (BK.row (FE (FP a) (i+1) l) j):=.inl (by
 have d:∀k,BK.row (FE (FP a) k l) j=BK.sv ((FE (FP a) k l).getD j d0):=λ_=>rfl;rw[d,d,Te c,Te c];by_cases q:j<i/\FP a j=true
 .rw[J7 q,J7 ⟨Dx,q.2⟩]
 .rw[J8 q,J8 (λz=>q ⟨by
   have z1:=z.1;have:j≠i:=λe=>by subst e;have b:=z.2;unfold FP at b;rw[h]at b;cases b
   omega,z.2⟩)])
def ISKi(w h:Int)(l:List (Int×Int×Int))(a:Int)(p:Pt)(r:Mv)(L:List Stk):Nat->Option Inv
 |4=>some {β:=Nat,ok:=λi=>i<=p.l.length,st:=λi=>⟨[⟨7,none,.int .i64 i⟩,⟨6,none,.own 6 0⟩,⟨5,none,.own 3 0⟩,⟨2,none,.own 0 0⟩,⟨1,none,.int .u64 a⟩],[.cells 24 (GE w h l),.row 51 3 p.l.length (BK.row p.l) none,.row CG 4 L.length (AA.row L) none,.cells 34 [.int .i64 p.W,.int .i64 p.H,.osl 1,.int .u8 r.t,.int .i64 r.x,.int .i64 r.y,.osl 2],.row 51 3 p.l.length (BK.row (FE (FP a) i p.l)) none,.row CG 4 L.length (AA.row L) none,.cells 34 [.int .i64 p.W,.int .i64 p.H,.osl 4,.int .u8 r.t,.int .i64 r.x,.int .i64 r.y,.osl 5]]⟩,μ:=λi=>p.l.length-i}
 |13=>some {β:=Nat,ok:=λj=>j<=(BC p r).length,st:=λj=>⟨[⟨12,none,.int .i64 j⟩,⟨10,none,.sl 3 (BC p r).length (AE.row (BC p r)) none⟩,⟨6,none,.own 6 0⟩,⟨2,none,.own 0 0⟩],[.cells 24 (GE w h l),.row 51 3 p.l.length (BK.row p.l) none,.row CG 4 L.length (AA.row L) none,.cells 34 [.int .i64 p.W,.int .i64 p.H,.sl 3 p.l.length (BK.row p.l) none,.int .u8 r.t,.int .i64 r.x,.int .i64 r.y,.osl 2],.row 51 3 p.l.length (BK.row (FE (FP a) p.l.length p.l)) none,.row CG 4 L.length (AA.row L) none,.cells 34 [.int .i64 p.W,.int .i64 p.H,.sl 3 p.l.length (BK.row (FE (FP a) p.l.length p.l)) none,.int .u8 r.t,.int .i64 r.x,.int .i64 r.y,.sl 4 L.length (AA.row L) none]]⟩,μ:=λj=>(BC p r).length-j}
 |_=>none
theorem f8g(J:PS 10 QB){a:Int}(hx:MI w h l)(e:GK w h l=(p,r,L))(_:AD .u64 a):PS 4 (TV [.agg (GE w h l),.int .u64 a] (.bool true)):=by
 have S:=f5c e;have K:=pSO1 hx e;clear e;refine LL {l:=[(11,c2t),(12,Qc),(13,c8z),(14,Vo),(15,VD),(10,QB)],h:=[(9,hSO1 (.agg (GE w h l)) p r L)],c2:=true,fz:=λd=>Nat.beq d 46||Nat.beq d 60} ⟨by simpa using⟨f2w,Uj,pPSame,f8x,pStUp,J⟩,Dz,by simpa using K⟩ (F1 [.agg (GE w h l),.int .u64 a] (.bool true)) (λ_=>ISKi w h l a p r L) (TV [.agg (GE w h l),.int .u64 a] (.bool true)) (law1 Ia) ?_ Tryz.func4 Dy Dy Dy ?_
 .exact Bx
 .rintro⟨⟩ _;have u:=S.pr.1.1;have m:∀j,BK.row (FE (FP a) 0 p.l) j=BK.row p.l j:=λj=>by rw[anyC_0]
  obtain⟨n,v,M⟩:=any_ok S.g Dx S.pr.1.2 S.sn.2.1 (f3k (b:=FP a));have z:(FE (FP a) p.l.length p.l).length=p.l.length:=c9c;have k:DZ p.l.length (BK.row (FE (FP a) p.l.length p.l))=FE (FP a) p.l.length p.l:=by have e:=CI (FE (FP a) p.l.length p.l);rw[z]at e;exact e
  have A:DZ p.l.length (BK.row p.l)=p.l:=CI p.l;have o:=pr_pre S.pr;have c:prOK ⟨p.W,p.H,FE (FP a) p.l.length p.l⟩ r:=⟨⟨by show (FE _ _ _).length<=_;omega,λx hx=>by obtain⟨y,N,_,O,_⟩:=(f3k (p:=p) (b:=FP a)).mem hx;rw[O];exact S.pr.1.2 y N⟩,S.pr.2⟩
  have c:=QF c S.sn;dsimp only at c;rw[z]at c;have B:zP 0 p=p:=J7 rfl;have C:CS ⟨p.W,p.H,FE (FP a) p.l.length p.l⟩ r=CS p r:=by unfold CS;rw[M]
  have P:(CS p r).length=(BC p r).length:=by simp[CS]
  have fk:=@b61 p r;have Q:=S.g.skok Dx;have j7:=d27 Q;have hN:=CF S.g.hs;have q:∀j:Int,LR ⟨p.W,p.H,FE (FP a) p.l.length p.l⟩ r L j=if j<0\/((BC p r).length:Int)<=j then 7 else 0:=λj=>by unfold LR;rw[J7 n,C,P]
  have R:∀j:Nat,j<(BC p r).length->LR ⟨p.W,p.H,FE (FP a) p.l.length p.l⟩ r L j=0/\Qp ⟨p.W,p.H,FE (FP a) p.l.length p.l⟩ r L j=decide (((BC p r).getD j AE.d).t<4):=λj s=>by
   have e:LR ⟨p.W,p.H,FE (FP a) p.l.length p.l⟩ r L j=0:=by rw[q,J8 Dx]
   refine⟨e,?_⟩;unfold Qp;rw[J7 e,C];exact up_at S.g Dx ⟨Dx,Dx⟩
  have T:LR ⟨p.W,p.H,FE (FP a) p.l.length p.l⟩ r L ((BC p r).length:Int)=7:=by rw[q,J7 (.inr (Lx _))]
  have U:LR ⟨p.W,p.H,FE (FP a) p.l.length p.l⟩ r L (-1)=7:=by rw[q,J7 (.inl E1)]
  have V:=S.bo;refine X0a _ ?_;(repeat' first|constructor|intro h)<;>refine Lm ?_
  refine⟨(0:Nat),Jj _,?_,?_⟩
  .refine X0b _ ?_;(repeat' first|constructor|intro h)<;>refine Lm ?_
   all_goals first|exact Ay|exact λ_ _=>.inl (m _).symm|skip
  .intro i E;replace E:i<=p.l.length:=E;by_cases X:i<p.l.length
   .refine X0b _ ?_;(repeat' first|constructor|intro h)<;>refine Lm ?_
    all_goals(try simp only[Jn]at*)
    all_goals(try first
     |omega
     |exact As
     |(simp only[AD]at*;omega)
     |(rw[Jy Dx];simp only[AD];omega)
     |(rw[Jy Dx];refine⟨Dx,?_⟩;show _<=64;omega)
     |(exfalso;have:=Lu h;omega)
     |(exfalso;have:=Lu ‹decide ((i:Int)<(p.l.length:Int))=false›;omega))
    all_goals
     refine⟨i+1,Ec,Ea,?_⟩;all_goals refine X0b _ ?_;(repeat' first|constructor|intro h)<;>refine Lm ?_
     all_goals first|rfl|exact f9q X h|exact any_no h|exact A5|skip
   .obtain rfl:i=p.l.length:=Dx;refine X0b _ ?_;(repeat' first|constructor|intro h)<;>refine Lm ?_
    all_goals(try simp only[k,A,n,v,B,Jo,JS,RT.lst_row])
    all_goals(try first
     |exact c
     |exact λ_=>c
     |omega
     |(exfalso;have:=Kj ‹decide ((p.l.length:Int)<(p.l.length:Int))=true›;omega)
     |exact⟨o,V⟩
     |exact λ_=>⟨⟨⟨Do _,u⟩,Do _,u⟩,by rw[CI]⟩
     |(exfalso;simp only[k,n,v,B,JS,RT.lst_row]at h;simp at h;done))
    all_goals
     refine⟨(0:Nat),Jj _,?_,?_⟩
     .exact X2b
     .intro j s;replace s:j<=(BC p r).length:=s;by_cases F:j<(BC p r).length
      .obtain⟨G,I⟩:=R j F;refine X0b _ ?_;(repeat' first|constructor|intro h)<;>refine Lm ?_
       all_goals(try simp only[k,JS,RT.lst_row,G,I,Jn])
       all_goals(try first
        |exact c
        |exact λ_=>c
        |exact λ_=>⟨Dx,Dx⟩
        |exact A4
        |(exfalso;simp only[k,JS,RT.lst_row,G,I,Jn]at h;simp at h;done)
        |(exfalso;have:=Lu ‹decide ((j:Int)<((BC p r).length:Int))=false›;omega)
        |(exact⟨j+1,F,by show _-(j+1)<_-j;omega,by
           all_goals refine X0b _ ?_;(repeat' first|constructor|intro h)<;>refine Lm ?_
           all_goals first|exact Ay⟩))
      .obtain rfl:j=(BC p r).length:=Dx;refine X0b _ ?_;(repeat' first|constructor|intro h)<;>refine Lm ?_
       all_goals(try simp only[k,JS,RT.lst_row,T,U])
       all_goals(try first
        |exact c
        |exact λ_=>c
        |(exfalso;have:=Kj ‹decide (((BC p r).length:Int)<((BC p r).length:Int))=true›;omega)
        |rfl
        |(simp;done))
theorem f5v(b:PS 10 QB):PS 4 (SB FSKi):=f55 ⟨_,Tryz.func4,Dy,Dy⟩ λ((w,h,l),a) c=>by
 obtain⟨hx,d⟩:=c;cases e:GK w h l with
 |mk p s=>cases s with
  |mk r L=>exact f8g b hx e d
theorem f1t{w h a:Int}{l:List (Int×Int×Int)}(hx:MI w h l)(b:AD .u64 a):FSKi.pre ((w,h,l),a):=⟨hx,b⟩
end
end Go.Proofs.YtaihldljnlgnoaaGreatDoor.V
