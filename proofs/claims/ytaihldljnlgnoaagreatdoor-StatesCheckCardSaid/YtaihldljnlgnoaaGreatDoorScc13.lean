/-
  Parts of the proof: A33 A34 A35 A43 C31 A45 C22 A46 D30 D32 Q9 D33 Y28 Y9 Y10 Y11 Y12 T3 Y13 Y14 Y15 Y16 Y19 Y29 D23. Conditions: none.
-/
import Derived.Test.YtaihldljnlgnoaaGreatDoorScc5
import Derived.Test.YtaihldljnlgnoaaGreatDoorScc7
import Derived.Test.YtaihldljnlgnoaaGreatDoorScc8
import Derived.Test.YtaihldljnlgnoaaGreatDoorScc9
import Derived.Test.YtaihldljnlgnoaaGreatDoorScc10
import Derived.Test.YtaihldljnlgnoaaGreatDoorScc11
import Derived.Test.YtaihldljnlgnoaaGreatDoorScc12
set_option maxRecDepth 100000
set_option maxHeartbeats 40000000
namespace Go.Proofs.YtaihldljnlgnoaaGreatDoor.V
open Go
theorem pSym:∀F,HS 198 (Sc F)
 |0=>by
  refine⟨⟨_,Tryz.func198,Dw,Dw⟩,λA w args vals own μ r _ _ _ _ _ h a=> ?_⟩;unfold Sc at h;split at h
  .split at h
   .cases h;obtain⟨p1,p2,p3,p4,p5,p6,p7,p8⟩:=a;exfalso;omega
   .cases h
  .cases h
 |F+1=>pSym1 F (pSym F)
def f9p:HK:=λa own=>match own with
 |.row T b n g c::o=>Sc n a (.row T b n g c::o)
 |_=>none
theorem pSymN:HS 198 f9p:=by
 refine⟨(pSym 0).1,λA w a b own c r d e f g i h j=> ?_⟩;unfold f9p at h;split at h
 .exact(pSym _).2 A w a b _ c r d e f g i h j
 .cases h
section
variable{α:Type}{d:α}{lt:α->α->Bool}
theorem f6q{n f a:Nat}{L:List α}(h:a+20<=n):Nl d lt n (f+1) a L=Nl d lt n f (a+20) (GF d lt a (a+20) L):=by rw[Nl,Iz h]
theorem d1y{n f a:Nat}{L:List α}(h:¬a+20<=n):Nl d lt n f a L=GF d lt a n L:=by
 cases f with
 |zero=>rfl
 |succ f=>rw[Nl,J3 h]
theorem f6e{n b f a:Nat}{L:List α}(h:a+2*b<=n):LB d lt n b (f+1) a L=LB d lt n b f (a+2*b) (EM d lt n a (a+b) (a+2*b) L):=by rw[LB,Iz h]
theorem d3x{n b f a:Nat}{L:List α}(h:¬a+2*b<=n)(k:a+b<n):LB d lt n b f a L=EM d lt n a (a+b) n L:=by
 cases f with
 |zero=>rw[LB,Iz k]
 |succ f=>rw[LB,J3 h,Iz k]
theorem d5m{n b f a:Nat}{L:List α}(h:¬a+2*b<=n)(k:¬a+b<n):LB d lt n b f a L=L:=by
 cases f with
 |zero=>rw[LB,J3 k]
 |succ f=>rw[LB,J3 h,J3 k]
theorem f7n{n f a:Nat}{L:List α}(h:a<n):NV d lt n (f+1) a L=NV d lt n f (2*a) (LB d lt n a n 0 L):=by rw[NV,Iz h]
theorem d24{n f a:Nat}{L:List α}(h:¬a<n):NV d lt n f a L=L:=by
 cases f with
 |zero=>rfl
 |succ f=>rw[NV,J3 h]
end
def hStb:HK:=λa own=>match a,own with
 | [.osl 0,.int .i64 k,.clo f []],[.row T 4 n g _]=>if T=CM/\f=125 then some ⟨AA.isL n g/\n<=100000/\k=n/\(∀s∈AA.lst n g,AE .u8 s.c.q),.tup [],[.row CM 4 (AA.lst n g).length (AA.row (Ob AA.d AZ (AA.lst n g))) none],[]⟩else none
 |_,_=>none
def FStb:FamH:=⟨List Stk,λ(l:List Stk)=>[.osl 0,.int .i64 (l.length:Int),.clo 125 []],λ(l:List Stk)=>[.row CM 4 l.length (AA.row l) none],λ(l:List Stk)=>l.length<=100000/\∀s∈l,AE .u8 s.c.q,λ_=>.tup [],λ(l:List Stk)=>[.row CM 4 l.length (AA.row (Ob AA.d AZ l)) none],[]⟩
def IStb:List Stk->Nat->Option Inv
 |l,2=>some {β:=Nat×Nat×List Stk,ok:=λ(f,a,L)=>Sub L l/\a<=l.length/\l.length-a<=f/\Nl AA.d AZ l.length f a L=Nl AA.d AZ l.length l.length 0 l,st:=λ(_,a,L)=>⟨[⟨8,none,.int .i64 ((a:Int)+20)⟩,⟨7,none,.int .i64 a⟩,⟨6,none,.int .i64 20⟩,⟨2,none,.clo 125 []⟩,⟨1,none,.int .i64 (l.length:Int)⟩,⟨0,none,.osl 0⟩],[.row CM 4 l.length (AA.row L) none]⟩,μ:=λ(f,_)=>f}
 |l,7=>some {β:=Nat×Nat×List Stk,ok:=λ(f,b,L)=>Sub L l/\20<=b/\b<=2*l.length+40/\l.length<=b+f/\NV AA.d AZ l.length f b L=Ob AA.d AZ l,st:=λ(_,b,L)=>⟨[⟨6,none,.int .i64 b⟩,⟨2,none,.clo 125 []⟩,⟨1,none,.int .i64 (l.length:Int)⟩,⟨0,none,.osl 0⟩],[.row CM 4 l.length (AA.row L) none]⟩,μ:=λ(f,_)=>f,sub:=λ(f,b,_)=>some fun
  |9=>some {β:=Nat×Nat×List Stk,ok:=λ(g,a,M)=>Sub M l/\a<=l.length/\l.length-a<=g/\b<l.length/\NV AA.d AZ l.length (f-1) (2*b) (LB AA.d AZ l.length b g a M)=Ob AA.d AZ l,st:=λ(_,a,M)=>⟨[⟨8,none,.int .i64 ((a:Int)+2*b)⟩,⟨7,none,.int .i64 a⟩,⟨6,none,.int .i64 b⟩,⟨2,none,.clo 125 []⟩,⟨1,none,.int .i64 (l.length:Int)⟩,⟨0,none,.osl 0⟩],[.row CM 4 l.length (AA.row M) none]⟩,μ:=λ(g,_)=>g}
  |_=>none}
 |_,_=>none
theorem pStb:HS 167 hStb:=by
 refine HG {h:=[(198,f9p),(170,hIns)]} ⟨Dx,Dx,by simpa using⟨pSymN,pIns⟩⟩ FStb IStb hStb ?_ ?_ ?_ Tryz.func167 Dw Dw Dw ?_
 .intro args own r h x;unfold hStb at h;split at h
  .rename_i k f T n g c;split at h
   .rename_i F;obtain⟨rfl,rfl⟩:=F;cases h;obtain⟨G,p2,p3,H⟩:=x;have hl:=RT.lst_length AA n g;exact⟨AA.lst n g,⟨E4,Ei,E4,J5⟩,rfl,WZ G,⟨Dv,H⟩,rfl,rfl,rfl⟩
   .cases h
  .cases h
 .exact C1
 .exact C5
 .rintro(l:List Stk) μ x;replace x:l.length<=100000/\∀s∈l,AE .u8 s.c.q:=x;obtain⟨h0,h5⟩:=x;have o:∀L:List Stk,L.length=l.length->AA.lst l.length (AA.row L)=L:=λL e=>by rw[<-e];exact RT.lst_row _ _
  have qr:∀L:List Stk,L.length=l.length->AA.isL l.length (AA.row L):=λL e=>by rw[<-e];exact AA.isL_row L
  refine X0 _ ?_;(repeat' first|constructor|intro h)<;>refine Lm ?_
  all_goals(try simp only[]at*)
  all_goals(try first
   |exact Am)
  refine⟨(l.length,0,l),⟨Sub.refl l,Je _,by show l.length-0<=l.length;omega,rfl⟩,?_,?_⟩
  .exact X2d
  .rintro⟨f,a,L⟩ u;replace u:Sub L l/\a<=l.length/\l.length-a<=f/\Nl AA.d AZ l.length f a L=Nl AA.d AZ l.length l.length 0 l:=u;obtain⟨k1,k2,k3,k4⟩:=u;have y:=k1.1;have t:((a:Int)+20).toNat=a+20:=Dv;by_cases v:a+20<=l.length
   .obtain⟨f,rfl⟩:∃B,f=B+1:=⟨f-1,Dv⟩
    rw[f6q v]at k4;have z:=(We (d:=AA.d) (lt:=AZ) (a:=a) (b:=a+20) (l:=L) Dv).trans k1;refine X0a _ ?_;(repeat' first|constructor|intro h)<;>refine Lm ?_
    all_goals(try simp only[Ia,t,o,k1.1]at*)
    all_goals(try first
     |exact Bh)
    refine⟨(f,a+20,GF AA.d AZ a (a+20) L),⟨z,v,by show l.length-(a+20)<=f;omega,k4⟩,Ec,?_⟩;all_goals exact X2e
   .rw[d1y v]at k4;have z:=(We (d:=AA.d) (lt:=AZ) (a:=a) (b:=l.length) (l:=L) Dv).trans k1;refine X0a _ ?_;(repeat' first|constructor|intro h)<;>refine Lm ?_
    all_goals(try simp only[Ia,t,o,k1.1]at*)
    all_goals(try first
     |exact Bh)
    refine⟨(l.length,20,GF AA.d AZ a l.length L),⟨z,J9 _,by show 20<=2*l.length+40;omega,by show l.length<=20+l.length;omega,by show NV AA.d AZ l.length l.length 20 (GF AA.d AZ a l.length L)=_;rw[k4];rfl⟩,?_,?_⟩
    .exact X2e
    .clear k1 k2 k3 k4 y z t v;rintro⟨f,j,L⟩ u;replace u:Sub L l/\20<=j/\j<=2*l.length+40/\l.length<=j+f/\NV AA.d AZ l.length f j L=Ob AA.d AZ l:=u;obtain⟨k1,k2,k3,k4,k5⟩:=u;have y:=k1.1;by_cases A:j<l.length
     .obtain⟨f,rfl⟩:∃B,f=B+1:=⟨f-1,Dv⟩
      rw[f7n A]at k5;refine X0a _ ?_;(repeat' first|constructor|intro h)<;>refine Lm ?_
      all_goals(try simp only[Ia,k1.1]at*)
      all_goals(try first
       |exact Am)
      refine⟨(l.length,0,L),⟨k1,Je _,by show l.length-0<=l.length;omega,A,k5⟩,?_,?_⟩
      .exact X2d
      .clear k1 k5 y;rintro⟨g,a,L⟩ u;replace u:Sub L l/\a<=l.length/\l.length-a<=g/\j<l.length/\NV AA.d AZ l.length f (2*j) (LB AA.d AZ l.length j g a L)=Ob AA.d AZ l:=u;obtain⟨k1,k6,k7,k8,k9⟩:=u;have y:=k1.1;have t:((a:Int)+j).toNat=a+j:=Dv;have w:((a:Int)+2*j).toNat=a+2*j:=Dv;by_cases v:a+2*j<=l.length
       .obtain⟨g,rfl⟩:∃I,g=I+1:=⟨g-1,Dv⟩
        rw[f6e v]at k9;have C:=(MC (d:=AA.d) (lt:=AZ) l.length a (a+j) (a+2*j) L Dv Dv Dv).trans k1;refine X0a _ ?_;(repeat' first|constructor|intro h)<;>refine Lm ?_
        all_goals(try simp only[Ia,t,w,o,k1.1]at*)
        all_goals(try first
         |exact Ax)
        refine⟨(g,a+2*j,EM AA.d AZ l.length a (a+j) (a+2*j) L),⟨C,v,by show l.length-(a+2*j)<=g;omega,A,k9⟩,by show g<g+1;omega,?_⟩;all_goals exact X2f
       .by_cases E:a+j<l.length
        .rw[d3x v E]at k9;have C:=(MC (d:=AA.d) (lt:=AZ) l.length a (a+j) l.length L Dv Dv Dv).trans k1;refine X0a _ ?_;(repeat' first|constructor|intro h)<;>refine Lm ?_
         all_goals(try simp only[Ia,t,w,o,k1.1]at*)
         all_goals(try first
          |exact Ax)
         refine⟨(f,2*j,EM AA.d AZ l.length a (a+j) l.length L),⟨C,by show 20<=2*j;omega,by show 2*j<=_;omega,by show l.length<=2*j+f;omega,k9⟩,Ec,?_⟩;all_goals exact X2f
        .rw[d5m v E]at k9;refine X0a _ ?_;(repeat' first|constructor|intro h)<;>refine Lm ?_
         all_goals(try simp only[Ia,t,w,o,k1.1]at*)
         all_goals(try first
          |exact Ax)
         refine⟨(f,2*j,L),⟨k1,by show 20<=2*j;omega,by show 2*j<=_;omega,by show l.length<=2*j+f;omega,k9⟩,Ec,?_⟩;all_goals exact X2f
     .rw[d24 A]at k5;refine X0a _ ?_;(repeat' first|constructor|intro h)<;>refine Lm ?_
      all_goals(try simp only[Ia,k1.1]at*)
      all_goals(try first
       |exact Am
       |(intro _ _;left;rw[<-k5];done))
def c0m:HK:=λa own=>match a,own with
 | [.osl 0,.clo f []],[.row T 4 n g _]=>if T=CM/\f=125 then some ⟨AA.isL n g/\n<=100000/\(∀s∈AA.lst n g,AE .u8 s.c.q),.tup [],[.row CM 4 (AA.lst n g).length (AA.row (Ob AA.d AZ (AA.lst n g))) none],[]⟩else none
 |_,_=>none
def f95:FamH:=⟨List Stk,λ_=>[.osl 0,.clo 125 []],λ(l:List Stk)=>[.row CM 4 l.length (AA.row l) none],λ(l:List Stk)=>l.length<=100000/\∀s∈l,AE .u8 s.c.q,λ_=>.tup [],λ(l:List Stk)=>[.row CM 4 l.length (AA.row (Ob AA.d AZ l)) none],[]⟩
theorem f6x:HS 124 c0m:=by
 refine HG {h:=[(167,hStb)]} ⟨Dx,Dx,by simpa using pStb⟩ f95 (λ_ _=>none) c0m ?_ ?_ ?_ Tryz.func124 Dw Dw Dw ?_
 .intro args own r h a;unfold c0m at h;split at h
  .rename_i f T n g c;split at h
   .rename_i j;obtain⟨rfl,rfl⟩:=j;cases h;obtain⟨k,p2,m⟩:=a;have hl:=RT.lst_length AA n g;exact⟨AA.lst n g,⟨E4,E4,J5⟩,rfl,WZ k,⟨Dv,m⟩,rfl,rfl,rfl⟩
   .cases h
  .cases h
 .exact Bz
 .exact C5
 .rintro(l:List Stk) μ a;replace a:l.length<=100000/\∀s∈l,AE .u8 s.c.q:=a;obtain⟨b,d⟩:=a;have o:AA.lst l.length (AA.row l)=l:=RT.lst_row _ _;have e:AA.isL l.length (AA.row l):=AA.isL_row l;refine X0 _ ?_;(repeat' first|constructor|intro h)<;>refine Lm ?_
  all_goals(try simp only[o])
  all_goals first
   |exact⟨e,b,J5,d⟩
   |exact⟨e,b,rfl,d⟩
   |exact λ_ _=>J5
   |exact B5
   |exact A7
   |skip
def Ss(P:Stk->Bool)(l:List Stk):Int:=match l.findIdx? P with
 |some i=>i
 |none=> -1
theorem f19{P:Stk->Bool}{l:List Stk}{i:Nat}(hi:i<l.length)(h:∀j,j<i->P (l.getD j AA.d)=false)(a:P (l.getD i AA.d)=true):Ss P l=i:=by
 have:l.findIdx? P=some i:=by
  rw[Kd];refine⟨hi,?_,λj b=> ?_⟩
  .simpa[Ix,hi]using a
  .have:=h j b;have c:j<l.length:=Dv;simpa[Ix,c]using this
 simp[Ss,this]
theorem d4p{P:Stk->Bool}{l:List Stk}(h:∀j,j<l.length->P (l.getD j AA.d)=false):Ss P l= -1:=by
 have:l.findIdx? P=none:=by rw[L5];intro x hx;obtain⟨j,a,rfl⟩:=Jw.1 hx;have:=h j a;simpa[Ix,a]using this
 simp[Ss,this]
theorem f0h(P:Stk->Bool)(l:List Stk):decide (0<=Ss P l)=l.any P:=by
 unfold Ss;cases h:l.findIdx? P with
 |none=>
  have:=L5.1 h;have:l.any P=false:=by rw[Jg];intro x hx;simpa using this x hx
  rw[this];rfl
 |some i=>
  have:=Kd.1 h;obtain⟨a,b,_⟩:=this;have:l.any P=true:=Jj.2 ⟨_,K2 a,b⟩;rw[this];simp
def badC(a b c:Int):Bool:= !decide (EY a b c=0)
def PD(s:Stk):Bool:=badC s.c.x s.c.y s.c.q
def kMv1:AM
 | [.agg [.int .i64 a,.int .i64 b,.int .u8 c,x]]=>match AC.as x with
   |some u=>some (AC.isL u.1 u.2,.bool (badC a b c))
   |none=>none
 |_=>none
def FMv1:Fam:=⟨Stk,λs=>[.agg [.int .i64 s.c.x,.int .i64 s.c.y,.int .u8 s.c.q,.sl 1 s.l.length (AC.row s.l) none]],λ_=>True,λs=>.bool (PD s)⟩
theorem pMv1:PS 122 kMv1:=by
 refine con [(123,Qu)] (by simpa using Ux) FMv1 (λ_ _=>none) kMv1 ?_ ?_ Tryz.func122 Dw Dw Dw ?_
 .intro args pre s h d;unfold kMv1 at h;split at h
  .rename_i a b c x;split at h
   .rename_i u e;cases h;refine⟨⟨⟨a,b,c⟩,AC.lst u.1 u.2⟩,⟨⟨E1,E1,E1,AC.as_leL e d,J5⟩,J5⟩,J5,rfl⟩
   .cases h
  .cases h
 .exact C0
 .rintro(s:Stk) d;refine X0 _ ?_;(repeat' first|constructor|intro h)<;>refine Lm ?_
  all_goals(first
   |exact J5
   |rfl
   |skip)
def c5v:AM
 | [x,.clo g []]=>if g=122 then(KJ x).map λq=>(q.1,.int .i64 (Ss PD q.2))else none
 |_=>none
def FIdxFS:Fam:=⟨List Stk,λL=>[DJ L,.clo 122 []],λL=>FN L,λL=>.int .i64 (Ss PD L)⟩
def IIdxFS:List Stk->Nat->Option Inv
 |l,2=>some {β:=Nat,ok:=λi=>i<=l.length/\∀j,j<i->PD (l.getD j AA.d)=false,st:=λi=>⟨[⟨8,none,.int .i64 i⟩,⟨7,none,.int .i64 l.length⟩,⟨1,none,.clo 122 []⟩,⟨0,none,DJ l⟩],[]⟩,μ:=λi=>l.length-i}
 |_,_=>none
theorem pIdxFS:PS 166 c5v:=by
 refine con [(122,kMv1)] (by simpa using pMv1) FIdxFS IIdxFS c5v ?_ ?_ Tryz.func166 Dw Dw Dw ?_
 .intro args pre s h a;unfold c5v at h;split at h
  .split at h
   .rename_i g;subst g;simp only[Ic]at h;obtain⟨⟨q,L⟩,hx,rfl,rfl⟩:=h;obtain⟨h1,h2⟩:=Oc hx a;exact Ds
   .cases h
  .cases h
 .exact Bz
 .rintro(l:List Stk) a;replace a:FN l:=a;have hl:l.length<=100000:=a.1;refine X0 _ ?_;(repeat' first|constructor|intro h)<;>refine Lm ?_
  refine⟨(0:Nat),⟨Je _,λj d=>Dv⟩,?_,?_⟩
  .exact X2g
  .intro i k;obtain⟨f,c⟩:=k;replace f:i<=l.length:=f;refine X0 _ ?_;(repeat' first|constructor|intro h)<;>refine Lm ?_
   all_goals(try simp only[Ia]at*)
   all_goals(try first
    |exact Ap
    |exact AC.isL_row _
    |exact λ_=>AC.isL_row _
    |exact(f19 Dv c Dz).symm
    |exact(d4p λj d=>c j Dv).symm
    |exact An)
   refine⟨i+1,⟨by show i+1<=l.length;omega,λj d=> ?_⟩,E7,?_⟩
   .by_cases e:j<i
    .exact c j e
    .have:j=i:=Dv;subst this;assumption
   .refine X0 _ ?_;(repeat' first|constructor|intro h)<;>refine Lm ?_
    all_goals first|omega|exact A6|exact A4|skip
def c65:AM
 | [x,.clo g []]=>if g=122 then(KJ x).map λq=>(q.1,.bool (q.2.any PD))else none
 |_=>none
def FCntFS:Fam:=⟨List Stk,λL=>[DJ L,.clo 122 []],λL=>FN L,λL=>.bool (L.any PD)⟩
theorem pCntFS:PS 121 c65:=by
 refine con [(166,c5v)] (by simpa using pIdxFS) FCntFS (λ_ _=>none) c65 ?_ ?_ Tryz.func121 Dw Dw Dw ?_
 .intro args pre s h a;unfold c65 at h;split at h
  .split at h
   .rename_i b;subst b;simp only[Ic]at h;obtain⟨⟨q,L⟩,hx,rfl,rfl⟩:=h;obtain⟨h1,h2⟩:=Oc hx a;exact Ds
   .cases h
  .cases h
 .exact Bz
 .rintro(l:List Stk) a;replace a:FN l:=a;refine X0 _ ?_;(repeat' first|constructor|intro h)<;>refine Lm ?_
  all_goals(try simp only[RT.lst_row]at*)
  all_goals(first
   |exact⟨AA.isL_row l,a.1,a.2⟩
   |exact f0h _ _
   |skip)
def cmEs(r:Mv)(s:Stk):Int:=HO r.t r.x r.y s.c.x s.c.y s.c.q
def OG(r:Mv)(s:Stk):Stk:=⟨⟨LN r.t r.x r.y s.c.x s.c.y,MB r.t r.x r.y s.c.x s.c.y,KV r.t s.c.q⟩,s.l⟩
def JZ(r:Mv)(L:List Stk):Int:=if DV r.t r.x r.y=0/\L.any PD=false then(if L.all (λs=>decide (cmEs r s=0))=true then 0 else 3)else 1
def KM(r:Mv)(L:List Stk):List Stk:=if JZ r L=0 then Ob AA.d AZ (L.map (OG r))else []
theorem f9a{r:Mv}{L:List Stk}(h:¬DV r.t r.x r.y=0):JZ r L=1:=by unfold JZ;rw[if_neg (λa=>h a.1)]
theorem f26{r:Mv}{L:List Stk}(h:L.any PD=true):JZ r L=1:=by unfold JZ;rw[if_neg (λa=>by simp[a.2]at h)]
theorem d2k{r:Mv}{L:List Stk}{i:Nat}(b:DV r.t r.x r.y=0)(c:L.any PD=false)(hi:i<L.length)(h:¬cmEs r (L.getD i AA.d)=0):JZ r L=3:=by unfold JZ;rw[Iz ⟨b,c⟩,J3];intro a;rw[Ja]at a;have:=a _ (K2 hi);rw[Jb]at this;apply h;simpa[Ix,hi]using this
theorem d92{r:Mv}{L:List Stk}(b:DV r.t r.x r.y=0)(c:L.any PD=false)(h:∀i,i<L.length->cmEs r (L.getD i AA.d)=0):JZ r L=0:=by unfold JZ;rw[Iz ⟨b,c⟩,Iz];rw[Ja];intro s hs;obtain⟨i,a,rfl⟩:=Jw.1 hs;have:=h i a;simpa[Ix,a]using this
theorem f0q{r:Mv}{L:List Stk}(h:JZ r L≠0):(KM r L).length=0:=by unfold KM;rw[if_neg h];rfl
def PQ(r:Mv)(L:List Stk)(i q:Nat):List SV:=[.int .i64 (if q<i then(OG r (L.getD q AA.d)).c.x else 0),.int .i64 (if q<i then(OG r (L.getD q AA.d)).c.y else 0),.int .u8 (if q<i then(OG r (L.getD q AA.d)).c.q else 0),if q<i then .sl 1 (L.getD q AA.d).l.length (AC.row (L.getD q AA.d).l) none else .con (.slice none 0 0)]
theorem d93{r:Mv}{L:List Stk}{i q:Nat}(h:q<i):PQ r L i q=AA.sv (OG r (L.getD q AA.d)):=by simp only[PQ,Iz h];rfl
theorem f2h{r:Mv}{L:List Stk}{i q:Nat}(h:¬q<i):PQ r L i q=d1q:=by simp only[PQ,J3 h];rfl
theorem f36{r:Mv}{L:List Stk}{q:Nat}(h:q<L.length):PQ r L L.length q=AA.row (L.map (OG r)) q:=by rw[d93 h];simp[RT.row,h]
theorem sm_lst{r:Mv}{L:List Stk}:AA.lst L.length (PQ r L L.length)=L.map (OG r):=by
 have e:AA.lst L.length (PQ r L L.length)=AA.lst L.length (AA.row (L.map (OG r))):=by simp only[RT.lst];apply List.map_congr_left;intro q hq;rw[f36 G3]
 have k:=RT.lst_row AA (L.map (OG r));rw[Jv]at k;rw[e,k]
theorem sm_isL{r:Mv}{L:List Stk}:AA.isL L.length (PQ r L L.length):=by intro q hq;rw[f36 hq];exact AA.isL_row (L.map (OG r)) q G3
theorem f3e(t Q:Int):AE .u8 (KV t Q):=by simp only[KV,Rg];cases NC t Q 3<;>cases NC t Q 2<;>cases NC t Q 1<;>cases NC t Q 0<;>simp[AE]
theorem g06{r:Mv}{L:List Stk}{i q:Nat}{c:Option Nat}:FU (DC (decide (q=i)) [.int .i64 (LN r.t r.x r.y (L.getD i AA.d).c.x (L.getD i AA.d).c.y),.int .i64 (MB r.t r.x r.y (L.getD i AA.d).c.x (L.getD i AA.d).c.y),.int .u8 (KV r.t (L.getD i AA.d).c.q),.sl 1 (L.getD i AA.d).l.length (AC.row (L.getD i AA.d).l) c] (PQ r L i q)) (PQ r L (i+1) q):=by
 by_cases e:q=i
 .subst e;rw[d93 (Nat.lt_succ_self _),f2h (M7 _),Jf rfl];right;exact⟨rfl,rfl,rfl,⟨rfl,Et,Gp,λ_ _=>rfl⟩,J5⟩
 .left;rw[Ji e];by_cases h:q<i
  .rw[d93 h,d93 Dv];rfl
  .rw[f2h h,f2h Dv];rfl
def b95:AM
 | [x,.agg [.int .u8 t,.int .i64 a,.int .i64 b]]=>(KJ x).map λq=>(q.1/\0<=t/\t<=255/\∀s∈q.2,AE .u8 s.c.q,.tup [.sl 4 (KM ⟨t,a,b⟩ q.2).length (AA.row (KM ⟨t,a,b⟩ q.2)) none,.int .i64 (JZ ⟨t,a,b⟩ q.2)])
 |_=>none
def f80:Fam:=⟨List Stk×Mv,λ(L,r)=>[DJ L,ID r],λ(L,r)=>FN L/\0<=r.t/\r.t<=255/\∀s∈L,AE .u8 s.c.q,λ(L,r)=>.tup [.sl 4 (KM r L).length (AA.row (KM r L)) none,.int .i64 (JZ r L)]⟩
def f9w:List Stk×Mv->Nat->Option Inv
 |(L,r),5=>some {β:=Nat,ok:=λi=>i<=L.length/\∀j,j<i->cmEs r (L.getD j AA.d)=0,st:=λi=>⟨[⟨23,none,.int .i64 i⟩,⟨22,none,.int .i64 L.length⟩,⟨21,none,DJ L⟩,⟨6,none,.osl 1⟩,⟨3,none,.own 0 0⟩],[.cells 31 [.int .u8 r.t,.int .i64 r.x,.int .i64 r.y],.row 41 4 L.length (PQ r L i) (some L.length)]⟩,μ:=λi=>L.length-i}
 |_,_=>none
theorem f98:PS 84 b95:=by
 refine Np {l:=[(17,Qh),(121,c65),(119,VR)],h:=[(87,b6g),(124,c0m)],gr:=λid=>bif Nat.beq id 10 then [.fz 4,.flat 1]else []} ⟨by simpa using⟨UJ,pCntFS,b5d⟩,Dx,by simpa using⟨c8m,f6x⟩⟩ f80 f9w b95 ?_ ?_ Tryz.func84 Dw Dw Dw ?_
 .intro args pre s h hp;unfold b95 at h;split at h
  .rename_i x t a b;simp only[Ic]at h;obtain⟨⟨q,L⟩,hx,rfl,rfl⟩:=h;obtain⟨E,F⟩:=hp;obtain⟨G,H⟩:=Oc hx E;exact⟨(L,⟨t,a,b⟩),⟨G,Gh,J5⟩,⟨H,F⟩,rfl⟩
  .cases h
 .exact Bz
 .rintro⟨L,r⟩ hp;replace hp:FN L/\0<=r.t/\r.t<=255/\∀s∈L,AE .u8 s.c.q:=hp;have n:=hp.1.1;have o:JZ r L≠0->(KM r L).length=0:=f0q;refine X0 _ ?_;(repeat' first|constructor|intro h)<;>refine Lm ?_
  all_goals(try simp only[RT.lst_row,Ib,Ii,Ig]at*)
  all_goals(try first
   |exact⟨hp.2.1,hp.2.2.1⟩
   |exact λ_=>⟨AA.isL_row L,n,hp.1.2⟩
   |exact At
   |(have w:JZ r L=1:=Or.elim ‹_\/_› f9a f26
     first|exact w.symm|exact o (by rw[w];decide)))
  have g:DV r.t r.x r.y=0/\L.any PD=false:=‹_/\_›;refine⟨(0:Nat),⟨Je _,λj k=>Dv⟩,?_,?_⟩
  .refine X0a _ ?_;(repeat' first|constructor|intro h)<;>refine Lm ?_
   all_goals first|exact Ba|(intro q _;exact .inl (by rw[f2h (Jq _)];rfl))|exact A4|rfl|skip
  .rintro i ⟨z,k⟩;replace z:i<=L.length:=z;have hm:i<L.length->L.getD i AA.d∈L:=λh=>H8;by_cases b6:i<L.length
   .have hQ:0<=(L.getD i AA.d).c.q:=by have:=hp.2.2.2 _ (hm b6);simp only[AE]at this;omega
    by_cases m:HO r.t r.x r.y (L.getD i AA.d).c.x (L.getD i AA.d).c.y (L.getD i AA.d).c.q=0
    .refine X0a _ ?_;(repeat' first|constructor|intro h)<;>refine Lm ?_
     all_goals(try simp only[Ia,Ib]at*)
     all_goals(try first
      |exact Bm)
     refine⟨i+1,⟨by show i+1<=L.length;omega,λj bm=> ?_⟩,E7,?_⟩
     .by_cases e:j<i
      .exact k j e
      .have:j=i:=Dv;subst this;exact m
     .have k0:∀v,keep (HO r.t r.x r.y (L.getD i AA.d).c.x (L.getD i AA.d).c.y (L.getD i AA.d).c.q) v=v:=λv=>by unfold keep;rw[if_pos m]
      refine X0a _ ?_;(repeat' first|constructor|intro h)<;>refine Lm ?_
      all_goals(try simp only[k0])
      all_goals first
       |omega
       |exact A4
       |exact λ_ _=>g06
       |rfl
       |skip
    .have A:JZ r L=3:=d2k g.1 g.2 b6 m;refine X0a _ ?_;(repeat' first|constructor|intro h)<;>refine Lm ?_
     all_goals(try simp only[Ia,Ib]at*)
     all_goals(try first
      |exact Bm
      |exact A.symm
      |exact o (by rw[A];decide))
   .have I:i=L.length:=Dv;subst I;have B:JZ r L=0:=d92 g.1 g.2 k;have C:KM r L=Ob AA.d AZ (L.map (OG r)):=by unfold KM;rw[if_pos B]
    have tk:(KM r L).length=L.length:=by rw[C,(c1y _).1,Jv]
    refine X0a _ ?_;(repeat' first|constructor|intro h)<;>refine Lm ?_
    all_goals(try simp only[Ia,sm_lst,Jv,Ib]at*)
    all_goals(try first
     |exact By
     |omega
     |exact B.symm
     |exact⟨sm_isL,n,λs hs=>by obtain⟨u,_,rfl⟩:=Jp.1 hs;exact f3e _ _⟩
     |(intro _ _;left;rw[C];done))
def f3q(p:Pt):SV:=.agg [.int .i64 p.W,.int .i64 p.H,.sl 3 p.l.length (DZ p.l) (some p.l.length)]
def ptOK(p:Pt):Prop:=p.l.length<=100000
def c86:AM
 | [x]=>(PP x).map λq=>(q.1,f3q q.2)
 |_=>none
def FStCop:Fam:=⟨Pt,λp=>[Eo p],ptOK,f3q⟩
theorem pStCop:PS 36 c86:=by
 refine con [(77,b0w),(78,b0b)] (by simpa using⟨c3k,c3f⟩) FStCop (λ_ _=>none) c86 ?_ ?_ Tryz.func36 Dw Dw Dw ?_
 .intro args pre s h a;unfold c86 at h;split at h
  .rename_i x;simp only[Ic]at h;obtain⟨⟨q,p⟩,hx,rfl,rfl⟩:=h;obtain⟨b,c⟩:=QX hx a;exact⟨p,⟨b,J5⟩,c,rfl⟩
  .cases h
 .exact C0
 .rintro p a;replace a:p.l.length<=100000:=a;exact X2a
def MQ(p:Pt)(r:Mv)(L:List Stk)(m:Mv):Int:=if¬HF r.t r.x r.y m.t m.x m.y=0\/¬JZ m L=0 then 3 else if¬CS p (HC r m) (KM m L)=0 then 3 else 0
def rMvd(p:Pt)(r:Mv)(L:List Stk)(m:Mv):SV:=.tup [.agg (Fo (zP (MQ p r L m) p) (zR (MQ p r L m) (HC r m)) (zL (MQ p r L m) (KM m L))),.int .i64 (MQ p r L m)]
def kMvd:AM
 | [x,.agg [.int .u8 t,.int .i64 a,.int .i64 b]]=>(Ox x).map λq=>(q.1/\0<=t/\t<=255,rMvd q.2.1 q.2.2.1 q.2.2.2 ⟨t,a,b⟩)
 |_=>none
def FMvd:Fam:=⟨(Pt×Mv×List Stk)×Mv,λ((p,r,L),m)=>[.agg (Fo p r L),ID m],λ((p,r,L),m)=>(prOK p r/\FK L)/\0<=m.t/\m.t<=255,λ((p,r,L),m)=>rMvd p r L m⟩
theorem mv_in{L:List Stk}{m:Mv}(h:FK L)(c:JZ m L=0):FK (KM m L):=by
 have a:(KM m L).Perm (L.map (OG m)):=by unfold KM;rw[Iz c];exact(c1y _).3
 refine⟨⟨by rw[a.length_eq,Jv];exact h.1.1,λs hs=> ?_⟩,λs hs=> ?_,?_⟩
 .obtain⟨t,b,rfl⟩:=Jp.1 (a.mem_iff.1 hs);exact h.1.2 t b
 .obtain⟨t,b,rfl⟩:=Jp.1 (a.mem_iff.1 hs);exact f3e _ _
 .rw[d6n a,f2v (f:=OG m) (λ_=>rfl)];exact h.2.2
theorem th_in{p:Pt}{r m:Mv}(h:prOK p r)(a:0<=m.t/\m.t<=255):prOK p (HC r m):=⟨h.1,c6q h.2.1 a.1⟩
theorem pMvd:PS 46 kMvd:=by
 refine con [(83,VP),(84,b95),(36,c86),(85,XC)] (by simpa using⟨f8k,f98,pStCop,c2p⟩) FMvd (λ_ _=>none) kMvd ?_ ?_ Tryz.func46 Dw Dw Dw ?_
 .intro args pre s h j;unfold kMvd at h;split at h
  .rename_i x t a b;simp only[Ic]at h;obtain⟨⟨q,p,r,L⟩,hx,rfl,rfl⟩:=h;obtain⟨k,l,n⟩:=Sx hx j.1;exact⟨((p,r,L),⟨t,a,b⟩),⟨k,Gh,J5⟩,⟨⟨l,n⟩,j.2⟩,rfl⟩
  .cases h
 .exact Bz
 .rintro⟨⟨p,r,L⟩,m⟩ ⟨⟨e,c⟩,d⟩;have o:=λh=>@mv_in L m c h;have u:=th_in e d;have v:=d49 c.1;have f:=(SW e c).1;refine X0 _ ?_;(repeat' first|constructor|intro h)<;>refine Lm ?_
  all_goals(try simp only[RT.lst_row,CU,Ns,OC,Ii,Ib,Ig]at*)
  all_goals(try first
   |exact⟨e.2,d⟩
   |exact⟨v,d.1,d.2,c.2.1⟩
   |exact f.1
   |(obtain⟨g1,w⟩:=‹HF r.t r.x r.y m.t m.x m.y=0/\JZ m L=0›
     have hi:=o w;exact⟨⟨⟨f.1,f.2.1⟩,u.2⟩,d49 hi.1,hi.2⟩))
  all_goals first
   |(have g:MQ p r L m=3:=by
      unfold MQ;first
       |(rw[Iz Dz];done)
       |(rw[J3 Dv,Iz Dz];done)
     simp only[zP,zR,zL,g];all_goals first|exact B6)
   |(have g:MQ p r L m=0:=by
      unfold MQ;rw[J3 Dv,J3 (λq=>q Dz)]
     simp only[zP,zR,zL,g,eq_self,Ke];all_goals first|exact A2)
   |skip
def lsF(S:List Sm):List Lo:=S.flatMap (·.ls)
theorem add_ls{b:Bd}{u e:Int}{s:Sm}{x:Lo}(h:x∈s.ls):x∈(GP b u e s).ls:=by
 unfold GP;split
 .split
  .exact h
  .split
   .exact h
   .exact N7 _ h
 .exact h
theorem d8p{b:Bd}{u e:Int}{S:List Sm}{s:Sm}{x:Lo}(hs:s∈S)(hx:x∈s.ls):∃t∈GO b u e S,x∈t.ls:=by
 have f:s∈Co S (CT b u) (DR b u e):=by
  unfold Co;split
  .exact hs
  .exact N7 _ hs
 obtain⟨j,hj,c⟩:=HH (d:=BB) f;have g:=QE S (CT b u) (DR b u e);have b6:=LA g;have hl:=Va b u e S;by_cases a:j=CG (Co S (CT b u) (DR b u e)) (HM (CT b u) (DR b u e))
 .refine⟨_,BW (d:=BB) (i:=j) Dv,?_⟩;rw[a,Xo,<-a,c];exact add_ls hx
 .refine⟨_,BW (d:=BB) (i:=j) Dv,?_⟩;rw[c4q a,c];exact hx
section
variable{p q:Pt}{r:Mv}{L:List Stk}{B:Int}
def XK(x:Lo)(u v:Int):Prop:=(x.a=u/\x.b=v)\/(x.a=v/\x.b=u)
theorem c23:∀(k u e:Nat),e<3->3*u+e<k->AX p.W p.H (u:Int) (e:Int)=0->¬AG p.W p.H (u:Int) (e:Int)<(u:Int)->AW p (u:Int) (e:Int)≠0->∃s∈DY (Ao p r L) k,∃x∈s.ls,XK x (u:Int) (AG p.W p.H (u:Int) (e:Int))
 |0,_,_,_,h,_,_,_=>absurd h (Jq _)
 |k+1,u,e,c,h,f,g,j=>by
  by_cases l:3*u+e<k
  .obtain⟨s,hs,x,hx,m⟩:=c23 k u e c l f g j;obtain⟨t,n,o⟩:=d8p (b:=Ao p r L) (u:=((k/3:Nat):Int)) (e:=((k%3:Nat):Int)) hs hx;exact⟨t,n,x,o,m⟩
  .have q:k=3*u+e:=Dv;subst q;rw[b3b _ c];have hl:=Va (Ao p r L) (u:Int) (e:Int) (DY (Ao p r L) (3*u+e));have hh:=LA (QE (DY (Ao p r L) (3*u+e)) (CT (Ao p r L) u) (DR (Ao p r L) u e));refine⟨_,BW (d:=BB) (i:=CG (Co (DY (Ao p r L) (3*u+e)) (CT (Ao p r L) u) (DR (Ao p r L) u e)) (HM (CT (Ao p r L) u) (DR (Ao p r L) u e))) Dv,?_⟩;rw[Xo];unfold GP;rw[Iz (show AX (Ao p r L).p.W (Ao p r L).p.H u e=0 from f),J3 (show¬AG (Ao p r L).p.W (Ao p r L).p.H u e<u from g),J3 (show¬AW (Ao p r L).p u e=0 from j)];refine⟨_,List.mem_append_right _ (Js.2 rfl),?_⟩;unfold XK;dsimp only;by_cases a:(Ao p r L).ht.getD (u:Int).toNat 0<(Ao p r L).ht.getD (AG (Ao p r L).p.W (Ao p r L).p.H u e).toNat 0
   .rw[Iz a,Iz a];exact .inl ⟨rfl,rfl⟩
   .rw[J3 a,J3 a];exact .inr ⟨rfl,rfl⟩
theorem c7g{S:List Sm}(c:(S.map BN).Nodup){s:Sm}(hs:s∈S):S.getD (CG S (BN s)) BB=s:=by
 have k:DU S (BN s)=true:=Jj.2 ⟨s,hs,Dx⟩;have a:=LA k;have l:=YP k;obtain⟨j,b,e⟩:=HH (d:=BB) hs;by_cases m:j=CG S (BN s)
 .rw[<-m];exact e
 .exfalso;rw[List.Nodup,K8]at c;have g:∀i (f:i<S.length),(S.map BN)[i]'(by rw[Jv];exact f)=BN (S.getD i BB):=λi f=>by
   rw[Ls,Ix,Iy f];rfl
  rcases Nd m with h|h
  .refine c j (CG S (BN s)) (by rw[Jv];exact b) (by rw[Jv];exact a) h ?_;rw[g j b,g _ a,l,e]
  .refine c (CG S (BN s)) j (by rw[Jv];exact a) (by rw[Jv];exact b) h ?_;rw[g j b,g _ a,l,e]
theorem of_has(h:CS p r L=0){s:Sm}(hs:s∈EH p r L){x:Lo}(hx:x∈s.ls):∃t∈DW p r L,x∈t.ls:=by
 have c:GC s∈DX p r L:=b4f.2 ⟨s,hs,rfl⟩;refine⟨JK (Ao p r L) ((EH p r L).getD (CG (EH p r L) (BN (sN (GC s).a (GC s).b))) BB),?_,?_⟩
 .rw[Xk h];exact Jp.2 ⟨_,c,rfl⟩
 .have e:BN (sN (GC s).a (GC s).b)=BN s:=rfl;have d:(EH p r L).getD (CG (EH p r L) (BN s)) BB=s:=c7g (b2u (Ao p r L) _) hs;rw[e,d];exact(QJ _ _ _).2 hx
theorem f5g(hs:AV p.W p.H=0)(h:CS p r L=0){u e:Int}(a:BX p u e)(b:¬AP p u e<u)(c:AW p u e≠0):∃x∈lsF (DW p r L),XK x u (AP p u e):=by
 obtain⟨⟨h0,h1⟩,he,d⟩:=a;have hN:=CR hs;obtain⟨n,rfl⟩:∃n:Nat,u=n:=⟨u.toNat,Dv⟩
 obtain⟨m,rfl⟩:∃m:Nat,e=m:=⟨e.toNat,Dv⟩
 obtain⟨s,hs,x,hx,f⟩:=c23 (p:=p) (r:=r) (L:=L) (3*AJ p.W p.H) n m Dv Dv d b c;obtain⟨t,g,i⟩:=of_has h hs hx;exact⟨x,Lt.2 ⟨t,g,i⟩,f⟩
theorem f72(S:SkOK p r L)(h:CS p r L=0){x:Lo}(hx:x∈lsF (DW p r L)):∃e,BX p x.a e/\AW p x.a e≠0/\AP p x.a e=x.b/\CC (AF L (AO p (AD p r) x.a)) x.a x.b/\RD p (FP p r) x=(DG p.W p.H x.a e,if(AD p r x.b).t<4 then 1 else 2):=by
 obtain⟨s,hs,hx⟩:=Lt.1 hx;have F:=US S;have hN:=CR S.hs;obtain⟨n,o⟩:=PA S h hs;obtain⟨⟨e,c,u,i,j,h5⟩,e',g1,g2,g3,v,g5⟩:=YI S n hx;have k:x.a∈AF L (BJ s x.s):=(F.mem _ _).2 ⟨c.1,j⟩;have l:=o x hx;rw[c73 S c.1,c73 S g1.1,j,v]at l;have w:x.a≠x.b:=λq=>by have m:=(JU S.hs c.1 c.2.1 c.2.2).2.1;have g:AG p.W p.H x.a e=x.b:=i;rw[g,<-q]at m;exact UA (IA S.hs c.1.1 c.1.2).2.2.1 c.2.1 m.symm
 have z:AY (AF L (BJ s x.s)) x.a<AY (AF L (BJ s x.s)) x.b:=by
  rcases Int.lt_or_eq_of_le l with q|q
  .exact q
  .exact absurd (b6h (FM.2 k) q) w
 have A:=II (FM.2 k) z;refine⟨e,c,u,i,by rw[j];exact A,Prod.ext ?_ ?_⟩
 .have g:AG p.W p.H x.a e=x.b:=i;have f:=JU S.hs c.1 c.2.1 c.2.2;rw[g]at f;unfold RD DG EI FC Ve WJ;rw[Iz c.2.2,Iz c.2.2,g];rcases Int.le_total x.a x.b with q|q
  .have:Nn p.W p.H (min x.a x.b) (max x.a x.b)=some e:=by
    rw[Int.min_eq_left q,Int.max_eq_right q];exact c8g S.hs c.1 c.2.1 c.2.2 g
   rw[this];rfl
  .have:Nn p.W p.H (min x.a x.b) (max x.a x.b)=some e:=by
    rw[Int.min_eq_right q,Int.max_eq_left q];exact c8g S.hs f.1 c.2.1 f.2.2.1 f.2.2.2
   rw[this];rfl
 .show TU (FP p r) x.b=_;have B:=S.P.vm x.b.toNat (by have:=g1.1;unfold AU at this;omega)
  have C:x.b.toNat<(BL p r).length:=I3;have E:(FP p r).getD x.b.toNat GM.d=QW (AD p r x.b):=by unfold FP AD;rw[Ix,Ix,Jr,Iy C];rfl
  have G:(QW (AD p r x.b)=true)↔(AD p r x.b).t<4:=by have I:DV (AD p r x.b).t (AD p r x.b).x (AD p r x.b).y=0:=B.2;unfold QW;rw[I];simp
  unfold TU;rw[E];simp only[G]
structure AnyOf (p q:Pt):Prop where
 W:q.W=p.W
 H:q.H=p.H
 len:q.l.length=p.l.length
 cr:∀i,i<p.l.length->(q.l.getD i d0).c=(p.l.getD i d0).c/\(q.l.getD i d0).e=(p.l.getD i d0).e/\((q.l.getD i d0).k=(p.l.getD i d0).k\/(q.l.getD i d0).k=3)
namespace AnyOf
theorem mem(Q:AnyOf p q){x:Cr}(h:x∈q.l):∃y∈p.l,x.c=y.c/\x.e=y.e/\(x.k=y.k\/x.k=3):=by obtain⟨i,a,rfl⟩:=HH (d:=d0) h;rw[Q.len]at a;exact⟨_,BW (d:=d0) a,Q.cr i a⟩
theorem mem'(Q:AnyOf p q){y:Cr}(h:y∈p.l):∃x∈q.l,x.c=y.c/\x.e=y.e/\(x.k=y.k\/x.k=3):=by obtain⟨i,a,rfl⟩:=HH (d:=d0) h;exact⟨_,BW (d:=d0) (by rw[Q.len];exact a),Q.cr i a⟩
theorem pat(Q:AnyOf p q)(h:BE p=0):BE q=0:=by
 obtain⟨e,f,g,j⟩:=FO h;unfold BE;rw[Q.W,Q.H,if_pos e,if_neg,if_neg,if_neg]
 .intro a;obtain⟨i,d,a⟩:=List.any_eq_true.1 a;rw[List.mem_range,Q.len]at d;have:=List.any_eq_false.1 j i (List.mem_range.2 d);unfold ON at a this;obtain⟨k,l,_⟩:=Q.cr i (by omega);obtain⟨m,n,_⟩:=Q.cr (i+1) (by omega);rw[k,l,m,n]at a;exact this a
 .intro a;obtain⟨x,hx,a⟩:=List.any_eq_true.1 a;obtain⟨y,c,o,r,_⟩:=Q.mem hx;have:=List.any_eq_false.1 g y c;unfold PN at a this;rw[Q.W,Q.H,o,r]at a;exact this a
 .intro a;obtain⟨x,hx,a⟩:=List.any_eq_true.1 a;obtain⟨y,c,_,_,b⟩:=Q.mem hx;have:=List.any_eq_false.1 f y c;unfold MH at a this;rcases b with b|b
  .rw[b]at a;exact this a
  .rw[b]at a;exact absurd a (by decide)
theorem kd(Q:AnyOf p q)(h:BE p=0){i e:Int}(d:AX p.W p.H i e=0):(AW q i e=0↔AW p i e=0)/\(AW q i e=AW p i e\/AW q i e=3):=by
 have j:=Q.pat h;have m:AX q.W q.H i e=0:=by rw[Q.W,Q.H];exact d
 have n:DG q.W q.H i e=DG p.W p.H i e:=by rw[Q.W,Q.H]
 obtain⟨_,o,_,_⟩:=FO h;cases hc:EE p.l (DG p.W p.H i e)with
 |false=>
  have r:EE q.l (DG q.W q.H i e)=false:=by unfold EE at hc⊢;rw[List.any_eq_false]at hc⊢;intro x hx a;obtain⟨y,b,f,g,_⟩:=Q.mem hx;refine hc y b ?_;unfold GD at a⊢;rw[n,f,g]at a;exact a
  rw[b67 h d hc,b67 j m r];exact⟨Iff.rfl,.inl rfl⟩
 |true=>
  obtain⟨y,b,a⟩:=c5p hc;obtain⟨x,hx,f,g,c⟩:=Q.mem' b;have s:GD (DG q.W q.H i e) x=true:=by unfold GD at a⊢;rw[n,f,g];exact a
  rw[Ru h d b a,Ru j m hx s];have t:y.k≠0:=λz=>by have:=List.any_eq_false.1 o y b;unfold MH at this;rw[z]at this;exact this (by decide)
  rcases c with c|c
  .rw[c];exact⟨Iff.rfl,.inl rfl⟩
  .rw[c];exact⟨⟨λz=>absurd z (by decide),λz=>absurd z t⟩,.inr rfl⟩
end AnyOf
end
theorem StG.skok{p:Pt}{r:Mv}{L:List Stk}{P:Int->Mv}{B:Int}(X:StG p r L P B)(b:B<=4000):SkOK p r L:=by have hN:=CR X.hs;have a:=(X.G.ok 0 ⟨Mt _,Dv⟩).1;rw[X.r0]at a;unfold FR at a;exact d6b (X.sk b) a.1 (λs hs=>X.stIn.2.1 s hs)
section
variable{p:Pt}{r:Mv}{L:List Stk}{B:Int}
end
section
variable{α:Type}{d:α}{lt:α->α->Bool}
def QP(d:α)(lt:α->α->Bool)(l:List α)(a b:Nat):Prop:=∀i j,a<=i->i<j->j<b->lt (l.getD j d) (l.getD i d)=false
structure Fra (d:α) (a b:Nat) (l' l:List α):Prop where
 len:l'.length=l.length
 out:∀i,i<a\/b<=i->l'.getD i d=l.getD i d
 mem:∀i,a<=i->i<b->∃j,(a<=j/\j<b)/\l'.getD i d=l.getD j d
theorem Fra.refl(a b:Nat)(l:List α):Fra d a b l l:=⟨rfl,λ_ _=>rfl,λi c e=>⟨i,⟨c,e⟩,rfl⟩⟩
theorem Fra.trans{a b:Nat}{l c m:List α}(h:Fra d a b c m)(k:Fra d a b m l):Fra d a b c l:=⟨h.1.trans k.1,λi f=>(h.2 i f).trans (k.2 i f),λi n o=>by obtain⟨j,g,e⟩:=h.3 i n o;obtain⟨q,p,r⟩:=k.3 j g.1 g.2;exact⟨q,p,e.trans r⟩⟩
theorem Fra.wide{a b a' c:Nat}{l f:List α}(h:Fra d a b f l)(ha:a'<=a)(hb:b<=c):Fra d a' c f l:=⟨h.1,λi hi=>h.2 i Dv,λi g k=>by
 by_cases q:a<=i/\i<b
 .obtain⟨j,hj,e⟩:=h.3 i q.1 q.2;exact⟨j,Dv,e⟩
 .exact⟨i,⟨g,k⟩,h.2 i Dv⟩⟩
theorem QP.keep{a b x y:Nat}{l c:List α}(h:QP d lt l a b)(f:Fra d x y c l)(q:b<=x\/y<=a):QP d lt c a b:=λi j e g k=>by rw[f.2 i Dv,f.2 j Dv];exact h i j e g k
theorem QP.one{a b:Nat}{l:List α}(h:b<=a+1):QP d lt l a b:=λi j h1 h2 h3=>Dv
variable (tr:∀ x y z, lt y x = false->lt z y = false->lt z x = false) (as':∀ x y, lt x y = true->lt y x = false)
include tr as'
omit tr in
theorem QP.le{a b:Nat}{l:List α}(h:QP d lt l a b){i j:Nat}(h1:a<=i)(h2:i<=j)(h3:j<b):lt (l.getD j d) (l.getD i d)=false:=by
 by_cases e:i=j
 .subst e;cases hh:lt (l.getD i d) (l.getD i d)with
  |false=>rfl
  |true=>rw[as' _ _ hh]at hh;cases hh
 .exact h i j h1 Dv h3
omit tr as' in
theorem QP.sub{a b a' b':Nat}{l:List α}(h:QP d lt l a b)(ha:a<=a')(hb:b'<=b):QP d lt l a' b':=λi j h1 h2 h3=>h i j Dv h2 Dv
end
section
end
def hS(m:Mv)(s:Stk):Stk:=⟨s.c,gv m s.l⟩
section
variable{p:Pt}{r m m':Mv}{L M:List Stk}{P:Int->Mv}{B:Int}
theorem f5r{l:List Int}:IL l=false↔l.Nodup:=⟨b6c,d4n⟩
end
def UE(a b:Int×Int×Int):Int:=if a.2.1<b.2.1\/a.2.1=b.2.1/\(a.1<b.1\/a.1=b.1/\a.2.2<b.2.2)then 1 else 0
def f1h:AM
 | [.agg [.int .i64 a,.int .i64 b,.int .u8 c],.agg [.int .i64 d,.int .i64 e,.int .u8 f]]=>some (True,.int .i64 (UE (a,b,c) (d,e,f)))
 |_=>none
def FBf25:Fam:=⟨Int×Int×Int×Int×Int×Int,λ(a,b,c,d,e,f)=>[.agg [.int .i64 a,.int .i64 b,.int .u8 c],.agg [.int .i64 d,.int .i64 e,.int .u8 f]],λ(_,_,_,_,_,_)=>True,λ(a,b,c,d,e,f)=>.int .i64 (UE (a,b,c) (d,e,f))⟩
theorem pBf25:PS 92 f1h:=by
 refine con [] Dx FBf25 (λ_ _=>none) f1h ?_ ?_ Tryz.func92 Dw Dw Dw ?_
 .intro args pre s h g;unfold f1h at h;split at h
  .rename_i a b c d e f;cases h;exact⟨(a,b,c,d,e,f),by simp[FBf25,BM,SV.le2,SV.le1,BH,SV.le0],g,rfl⟩
  .cases h
 .exact Bz
 .rintro⟨a,b,c,d,e,f⟩ g;replace g:True:=g;refine X0 _ ?_;(repeat' first|constructor|intro h)<;>refine Lm ?_
  all_goals(try simp only[Ig,Ii,If]at*)
  all_goals(first
   |trivial
   |(unfold UE;dsimp only;first|rw[if_pos Dv]|rw[if_neg Dv])
   |skip)
def SM(k:Int)(b:Bool):Int:=if k=3\/(k=2↔b=false)then 1 else 0
def d9n:AM
 | [.int .u8 k,.bool b]=>some (True,.int .i64 (SM k b))
 |_=>none
def FBn25:Fam:=⟨Int×Bool,λ(k,b)=>[.int .u8 k,.bool b],λ(_,_)=>True,λ(k,b)=>.int .i64 (SM k b)⟩
theorem pBn25:PS 63 d9n:=by
 refine con [] Dx FBn25 (λ_ _=>none) d9n ?_ ?_ Tryz.func63 Dw Dw Dw ?_
 .intro args pre s h a;unfold d9n at h;split at h
  .rename_i k b;cases h;exact⟨(k,b),by simp[FBn25,BM,SV.le2,SV.le1,SV.le0],a,rfl⟩
  .cases h
 .exact Bz
 .rintro⟨k,b⟩ a;replace a:True:=a;refine X0 _ ?_;(repeat' first|constructor|intro h)<;>refine Lm ?_
  all_goals(try simp only[Ig,Ii]at*)
  all_goals(first
   |trivial
   |(unfold SM;cases b<;>simp_all<;>done)
   |skip)
abbrev Wt:=Int×Int×Int
def CL:RT Wt:=⟨3,λx=>[.int .i64 x.1,.int .i64 x.2.1,.int .u8 x.2.2],λl=>match l with
 | [.int _ a,.int _ b,.int _ c]=>(a,b,c)
 |_=>(0,0,0),(0,0,0),λ_=>rfl⟩
def NA(l:List Wt)(v:Int):Int:=AY (l.map (·.1)) v
theorem d7m{l:List Wt}{j:Nat}(h:j<l.length):(l.map (·.1)).getD j 0=(l.getD j CL.d).1:=by rw[Ix,Ix,Jr,Iy h];rfl
theorem g0z{l:List Wt}{v:Int}{i:Nat}(hi:i<l.length)(h:∀j,j<i->(l.getD j CL.d).1≠v)(a:(l.getD i CL.d).1=v):NA l v=i:=
 b4j (by rw[Jv];exact hi) (λj b=>by rw[d7m Dv];exact h j b) (by rw[d7m hi];exact a)
theorem d9t{l:List Wt}{v:Int}(h:∀j,j<l.length->(l.getD j CL.d).1≠v):NA l v= -1:=
 c2s λj a=>by rw[Jv]at a;rw[d7m a];exact h j a
theorem c6x(l:List Wt)(v:Int): -1<=NA l v/\NA l v<l.length:=by have:=d2v (l.map (·.1)) v;rw[Jv]at this;exact this
def Xv:AM
 | [x,.int .i64 v]=>match CL.as x with
   |some (n,f)=>some (CL.isL n f/\n<=100000,.int .i64 (NA (CL.lst n f) v))
   |none=>none
 |_=>none
def FWh25:Fam:=⟨List Wt×Int,λ(l,v)=>[.sl 3 l.length (CL.row l) none,.int .i64 v],λ(l,_)=>l.length<=100000,λ(l,v)=>.int .i64 (NA l v)⟩
def IWh25:List Wt×Int->Nat->Option Inv
 |(l,v),2=>some {β:=Nat,ok:=λi=>i<=l.length/\∀j,j<i->(l.getD j CL.d).1≠v,st:=λi=>⟨[⟨5,none,.int .i64 i⟩,⟨1,none,.int .i64 v⟩,⟨0,none,.sl 3 l.length (CL.row l) none⟩],[]⟩,μ:=λi=>l.length-i}
 |_,_=>none
theorem pWh25:PS 93 Xv:=by
 refine con [] Dx FWh25 IWh25 Xv ?_ ?_ Tryz.func93 Dw Dw Dw ?_
 .intro args pre s h a;unfold Xv at h;split at h
  .split at h
   .rename_i n f hx;cases h;exact⟨(CL.lst n f,_),⟨Hl (CL.as_leL hx a.1),E4,J5⟩,by simp only[FWh25,RT.lst_length];exact a.2,rfl⟩
   .cases h
  .cases h
 .exact Bz
 .rintro⟨l,v⟩ a;replace a:l.length<=100000:=a;refine X0 _ ?_;(repeat' first|constructor|intro h)<;>refine Lm ?_
  refine⟨(0:Nat),⟨Je _,λj k=>Dv⟩,?_,?_⟩
  .exact X0c
  .intro i c;replace c:i<=l.length/\∀j,j<i->(l.getD j CL.d).1≠v:=c;obtain⟨dv,g⟩:=c;refine X0 _ ?_;(repeat' first|constructor|intro h)<;>refine Lm ?_
   all_goals(try simp only[Ia]at*)
   all_goals(first
    |exact Aw
    |(refine(g0z Dv g ?_).symm;assumption)
    |(refine⟨i+1,⟨Dv,λj k=> ?_⟩,E7,?_⟩
      .by_cases e:j<i
       .exact g j e
       .have:j=i:=Dv;subst this;assumption
      .refine X0 _ ?_;(repeat' first|constructor|intro h)<;>refine Lm ?_
       all_goals first|exact Ay|skip)
    |(refine(d9t λj k=> ?_).symm;exact g j Dv)
    |skip)
abbrev JE(l:List Wt)(i:Nat):Int:=(l.getD i CL.d).2.1
abbrev JA(l:List Wt)(i:Nat):Int:=(l.getD i CL.d).2.2
def GH(l:List Wt)(i:Nat):Int:=NA l (JE l i)
def XT:AM
 | [x,.int .i64 i]=>match CL.as x with
   |some (n,f)=>some (CL.isL n f/\n<=100000/\0<=i/\i<n,.int .i64 (GH (CL.lst n f) i.toNat))
   |none=>none
 |_=>none
def FPn25:Fam:=⟨List Wt×Nat,λ(l,i)=>[.sl 3 l.length (CL.row l) none,.int .i64 i],λ(l,i)=>l.length<=100000/\i<l.length,λ(l,i)=>.int .i64 (GH l i)⟩
theorem pPn25:PS 62 XT:=by
 refine con [(93,Xv)] (by simpa using pWh25) FPn25 (λ_ _=>none) XT ?_ ?_ Tryz.func62 Dw Dw Dw ?_
 .intro args pre s h a;unfold XT at h;split at h
  .rename_i x i;split at h
   .rename_i n f hx;cases h;refine⟨(CL.lst n f,i.toNat),⟨Hl (CL.as_leL hx a.1),?_,J5⟩,?_,rfl⟩
    .simp only[SV.le2,SV.le1,SV.le0,Ke];omega
    .simp only[FPn25,RT.lst_length];omega
   .cases h
  .cases h
 .exact Bz
 .rintro⟨l,i⟩ a;replace a:l.length<=100000/\i<l.length:=a;refine X0 _ ?_;(repeat' first|constructor|intro h)<;>refine Lm ?_
  all_goals(try simp only[Jk,RT.lst_row]at*)
  all_goals(first
   |exact Aw
   |exact⟨CL.isL_row _,a.1⟩
   |rfl
   |skip)
def PC(l:List Wt)(i k:Nat):Bool:=(decide (0<=JE l k)&&decide (JA l k=0))||(!decide (JA l k=0)&&(decide (GH l k<i)||decide (GH l i<GH l k)))
def Qf(l:List Wt)(i:Nat):Bool:= !decide (JA l i=0)&&(List.range (GH l i).toNat).any λk=>decide (i<k)&&PC l i k
def MW(l:List Wt):Bool:=(List.range l.length).any (Qf l)
def Pk(a b:List Wt)(i k:Nat):Bool:=((decide (JA a i=0)&&decide (JA a k=0))&&(decide (0<=JE a i)&&decide (0<=JE a k)))&&decide (NA b (JE a k)<NA b (JE a i))
def UX(a b:List Wt)(i:Nat):Bool:=(List.range a.length).any λk=>decide (i<k)&&Pk a b i k
def Sd(a b:List Wt):Bool:=(List.range a.length).any (UX a b)
def Qw(a b:List Wt):Int:=if MW a=true\/MW b=true\/Sd a b=true then 1 else 0
theorem d1e{l:List Wt}{i k:Nat}(a:¬JA l i=0)(b:i<k)(h2:(k:Int)<GH l i)(h:PC l i k=true)(hi:i<l.length):MW l=true:=by unfold MW;rw[Jj];refine⟨i,Jn.2 hi,?_⟩;unfold Qf;rw[Jt,Jj];exact⟨by simpa using a,k,Jn.2 Dv,by simp[b,h]⟩
theorem f3n{l:List Wt}{i:Nat}(h:∀k,i<k->(k:Int)<GH l i->PC l i k=false):Qf l i=false:=by
 unfold Qf;rw[Lj];right;rw[Jg];intro k b;have:=Jn.1 b;by_cases a:i<k
 .rw[h k a Dv];simp
 .simp[a]
theorem d7p{l:List Wt}(h:∀i,i<l.length->Qf l i=false):MW l=false:=by unfold MW;rw[Jg];intro i a;rw[h i (Jn.1 a)];decide
theorem d22{a b:List Wt}{i k:Nat}(c:i<k)(d:k<a.length)(h:Pk a b i k=true):Sd a b=true:=by unfold Sd;rw[Jj];refine⟨i,Jn.2 Dv,?_⟩;unfold UX;rw[Jj];exact⟨k,Jn.2 d,by simp[c,h]⟩
theorem f47{a b:List Wt}{i:Nat}(h:∀k,i<k->k<a.length->Pk a b i k=false):UX a b i=false:=by
 unfold UX;rw[Jg];intro k d;by_cases c:i<k
 .rw[h k c (Jn.1 d)];simp
 .simp[c]
theorem f53{a b:List Wt}(h:∀i,i<a.length->UX a b i=false):Sd a b=false:=by unfold Sd;rw[Jg];intro i c;rw[h i (Jn.1 c)];decide
def f1w:AM
 | [x,y]=>match CL.as x,CL.as y with
   |some (n,f),some (m,g)=>some ((CL.isL n f/\n<=100000)/\CL.isL m g/\m<=100000,.int .i64 (Qw (CL.lst n f) (CL.lst m g)))
   |_,_=>none
 |_=>none
def FCr25:Fam:=⟨List Wt×List Wt,λ(a,b)=>[.sl 3 a.length (CL.row a) none,.sl 3 b.length (CL.row b) none],λ(a,b)=>a.length<=100000/\b.length<=100000,λ(a,b)=>.int .i64 (Qw a b)⟩
abbrev El(a b:List Wt)(s:Nat):List Wt:=if s=0 then a else b
def crEn(a b:List Wt)(c:List Entry):List Entry:=c++[⟨5,none,.own 0 0⟩,⟨1,none,.sl 3 b.length (CL.row b) none⟩,⟨0,none,.sl 3 a.length (CL.row a) none⟩]
def XL(a b:List Wt):List Blk:=[.cells 175 [.sl 3 a.length (CL.row a) none,.sl 3 b.length (CL.row b) none]]
def ICr25:List Wt×List Wt->Nat->Option Inv
 |(a,b),3=>some {β:=Nat,ok:=λs=>s<=2/\(1<=s->MW a=false)/\(2<=s->MW b=false),st:=λs=>⟨crEn a b [⟨6,none,.int .i64 s⟩],XL a b⟩,μ:=λs=>2-s,sub:=λs=>some fun
  |7=>some {β:=Nat,ok:=λi=>i<=(El a b s).length/\∀j,j<i->Qf (El a b s) j=false,st:=λi=>⟨crEn a b [⟨8,none,.int .i64 i⟩,⟨7,none,.sl 3 (El a b s).length (CL.row (El a b s)) none⟩,⟨6,none,.int .i64 s⟩],XL a b⟩,μ:=λi=>(El a b s).length-i,sub:=λi=>some fun
   |12=>some {β:=Nat,ok:=λk=>(i<(El a b s).length/\i<k/\((k:Int)<=GH (El a b s) i\/k=i+1))/\∀j,i<j->j<k->PC (El a b s) i j=false,st:=λk=>⟨crEn a b [⟨10,none,.int .i64 k⟩,⟨9,none,.int .i64 (GH (El a b s) i)⟩,⟨8,none,.int .i64 i⟩,⟨7,none,.sl 3 (El a b s).length (CL.row (El a b s)) none⟩,⟨6,none,.int .i64 s⟩],XL a b⟩,μ:=λk=>(GH (El a b s) i).toNat+1-k}
   |_=>none}
  |_=>none}
 |(a,b),21=>some {β:=Nat,ok:=λi=>i<=a.length/\∀j,j<i->UX a b j=false,st:=λi=>⟨[⟨12,none,.int .i64 i⟩,⟨1,none,.sl 3 b.length (CL.row b) none⟩,⟨0,none,.sl 3 a.length (CL.row a) none⟩],XL a b⟩,μ:=λi=>a.length-i,sub:=λi=>some fun
  |24=>some {β:=Nat,ok:=λk=>(i<a.length/\i<k/\k<=a.length)/\∀j,i<j->j<k->Pk a b i j=false,st:=λk=>⟨[⟨13,none,.int .i64 k⟩,⟨12,none,.int .i64 i⟩,⟨1,none,.sl 3 b.length (CL.row b) none⟩,⟨0,none,.sl 3 a.length (CL.row a) none⟩],XL a b⟩,μ:=λk=>a.length-k}
  |_=>none}
 |_,_=>none
theorem pCr25:PS 61 f1w:=by
 refine con [(62,XT),(93,Xv)] (by simpa using⟨pPn25,pWh25⟩) FCr25 ICr25 f1w ?_ ?_ Tryz.func61 Dw Dw Dw ?_
 .intro args pre s h x;unfold f1w at h;split at h
  .split at h
   .rename_i n f m g hx C;cases h;exact⟨(CL.lst n f,CL.lst m g),⟨Hl (CL.as_leL hx x.1.1),Hl (CL.as_leL C x.2.1),J5⟩,by simp only[FCr25,RT.lst_length];exact⟨x.1.2,x.2.2⟩,rfl⟩
   .cases h
  .cases h
 .exact Bz
 .rintro⟨a,b⟩ ⟨E,y⟩;have one:∀l:List Wt,l.length<=100000->∀v,-1<=NA l v/\NA l v<100000:=λl hl v=>by
   have:=c6x l v;omega
  refine X0 _ ?_;(repeat' first|constructor|intro h)<;>refine Lm ?_
  refine⟨(0:Nat),⟨Dy,λh=>absurd h Dy,λh=>absurd h Dy⟩,?_,?_⟩
  .exact X2g
  .intro s hs;replace hs:s<=2/\(1<=s->MW a=false)/\(2<=s->MW b=false):=hs;obtain⟨s0,z,A⟩:=hs;obtain rfl|W3:=(show s=2\/s<2 from Dv)
   .replace z:=z Dy;replace A:=A Dy;refine X0 _ ?_;(repeat' first|constructor|intro h)<;>refine Lm ?_
    refine⟨(0:Nat),⟨Je _,λj d=>absurd d (Jq _)⟩,?_,?_⟩
    .exact X2g
    .intro i o;replace o:i<=a.length/\∀j,j<i->UX a b j=false:=o;obtain⟨F,u⟩:=o;refine X0 _ ?_;(repeat' first|constructor|intro h)<;>refine Lm ?_
     all_goals(try simp only[Ia]at*)
     all_goals(try first
      |exact Aw)
     .have B:i<a.length:=Dv;refine⟨i+1,⟨⟨B,Dv,Dv⟩,λj r w=>Dv⟩,?_,?_⟩
      .exact X2h
      .intro k t;replace t:(i<a.length/\i<k/\k<=a.length)/\∀j,i<j->j<k->Pk a b i j=false:=t;obtain⟨⟨_,k1,k2⟩,k3⟩:=t;have w1:=one b y (JE a i);have w2:=one b y (JE a k);refine X0 _ ?_;(repeat' first|constructor|intro h)<;>refine Lm ?_
       all_goals(try simp only[Ia,RT.lst_row,Ii,Ib]at*)
       all_goals(try first
        |exact Be
        |exact B9
        |exact⟨CL.isL_row _,y⟩
        |exact A7)
       all_goals first
        |(have G:Pk a b i k=true:=by
           unfold Pk JA JE;simp only[Ij];refine⟨⟨⟨Dv,Dv⟩,Dv,Dv⟩,?_⟩;assumption
          unfold Qw;rw[Iz (.inr (.inr (d22 k1 Dv G)))])
        |(have H:k<a.length:=by omega
          refine⟨k+1,⟨⟨B,Dv,Dv⟩,λj r w=> ?_⟩,Eu,?_⟩
          .by_cases e:j<k
           .exact k3 j r e
           .obtain rfl:j=k:=Dv;unfold Pk JA JE;simp only[Lj,L3];first
             |(right;assumption)
             |(left;omega)
          .refine X0 _ ?_;(repeat' first|constructor|intro h)<;>refine Lm ?_
           all_goals first|exact Aj|skip)
        |(have H:k=a.length:=by omega
          refine⟨i+1,⟨Dv,λj d=> ?_⟩,E7,?_⟩
          .by_cases e:j<i
           .exact u j e
           .obtain rfl:j=i:=Dv;exact f47 λq r w=>k3 q r Dv
          .refine X0 _ ?_;(repeat' first|constructor|intro h)<;>refine Lm ?_
           all_goals first|exact Aj|skip)
        |skip
     .have e:i=a.length:=Dv;unfold Qw;rw[J3];rintro(h|h|h)
      .rw[z]at h;cases h
      .rw[A]at h;cases h
      .rw[f53 λj d=>u j Dv]at h;cases h
   .have fl:∀s,(El a b s).length<=100000:=λs=>by unfold El;split;exact E;exact y
    have fz:∀s,MW (El a b s)=true->1=Qw a b:=λs h=>by
     unfold El at h;unfold Qw;split at h
     .rw[Iz (.inl h)]
     .rw[Iz (.inr (.inl h))]
    rcases(show s=0\/s=1 from Dv)with rfl|rfl;all_goals
     all_goals refine X0 _ ?_;(repeat' first|constructor|intro h)<;>refine Lm ?_
     .omega
     refine⟨(0:Nat),⟨Je _,λj d=>absurd d (Jq _)⟩,?_,?_⟩
     .exact X2g
     .intro i o;first
       |replace o:i<=(El a b 0).length/\∀j,j<i->Qf (El a b 0) j=false:=o
       |replace o:i<=(El a b 1).length/\∀j,j<i->Qf (El a b 1) j=false:=o
      obtain⟨F,u⟩:=o;have f0:=fl 0;have f1:=fl 1;refine X0 _ ?_;(repeat' first|constructor|intro h)<;>refine Lm ?_
      all_goals(try simp only[Ia,RT.lst_row]at*)
      all_goals(try first
       |exact Be
       |exact⟨CL.isL_row _,Dv,Dv,Dv⟩
       |exact A7)
      all_goals first
       |(refine⟨i+1,⟨Dv,λj d=> ?_⟩,E7,?_⟩
         .by_cases e:j<i
          .exact u j e
          .obtain rfl:j=i:=Dv;unfold Qf JA;rw[Lj];left;simpa using Dz
         .refine X0 _ ?_;(repeat' first|constructor|intro h)<;>refine Lm ?_
          all_goals first|exact Aj|skip)
       |(refine⟨i+1,⟨⟨Dv,Dv,.inr rfl⟩,λj r w=>Dv⟩,?_,?_⟩
         .exact X2h
         .intro k t;first
           |replace t:(i<(El a b 0).length/\i<k/\((k:Int)<=GH (El a b 0) i\/k=i+1))/\∀j,i<j->j<k->PC (El a b 0) i j=false:=t
           |replace t:(i<(El a b 1).length/\i<k/\((k:Int)<=GH (El a b 1) i\/k=i+1))/\∀j,i<j->j<k->PC (El a b 1) i j=false:=t
          obtain⟨⟨_,k1,k2⟩,k3⟩:=t;have p0: -1<=GH (El a b 0) i/\GH (El a b 0) i<(El a b 0).length:=c6x _ _;have p1: -1<=GH (El a b 1) i/\GH (El a b 1) i<(El a b 1).length:=c6x _ _;refine X0 _ ?_;(repeat' first|constructor|intro h)<;>refine Lm ?_
          all_goals(try simp only[Ia,RT.lst_row,If,Ii,Ib]at*)
          all_goals(try first
           |exact Be
           |exact B9
           |exact⟨CL.isL_row _,Dv,Dv,Dv⟩
           |exact A7)
          all_goals first
           |(refine fz _ (d1e (i:=i) (k:=k) Dz k1 Dv ?_ Dv)
             unfold PC JE JA;simp only[K1,Iv,Ig];first
              |exact .inl Dz
              |exact .inr ⟨Dz,Dz⟩)
           |(refine⟨k+1,⟨⟨Dv,Dv,Dv⟩,λj r w=> ?_⟩,by show _+1-(k+1)<_+1-k;omega,?_⟩
             .by_cases e:j<k
              .exact k3 j r e
              .obtain rfl:j=k:=Dv;unfold PC JE JA;simp only[Kk,Lj,Ig,Bool.not_eq_false'];first
                |exact⟨Dz,.inl Dz⟩
                |exact⟨Dz,.inr ⟨Dv,Dv⟩⟩
             .refine X0 _ ?_;(repeat' first|constructor|intro h)<;>refine Lm ?_
              all_goals first|exact Aj|skip)
           |(refine⟨i+1,⟨Dv,λj d=> ?_⟩,E7,?_⟩
             .by_cases e:j<i
              .exact u j e
              .obtain rfl:j=i:=Dv;exact f3n λq r w=>k3 q r Dv
             .refine X0 _ ?_;(repeat' first|constructor|intro h)<;>refine Lm ?_
              all_goals first|exact Aj|skip)
           |skip)
       |(first
          |refine⟨(1:Nat),⟨Dy,λ_=>d7p λj d=>u j (by show j<i;have:i=(El a b 0).length:=Dv;have I:j<(El a b 0).length:=d;omega),λh=>absurd h Dy⟩,Dy,?_⟩
          |refine⟨(2:Nat),⟨Dy,λ_=>z Dy,λ_=>d7p λj d=>u j (by have:i=(El a b 1).length:=Dv;have I:j<(El a b 1).length:=d;omega)⟩,Dy,?_⟩
         all_goals refine X0 _ ?_;(repeat' first|constructor|intro h)<;>refine Lm ?_
         all_goals first|exact Aj|skip)
       |skip
theorem QQ{own:List Blk}{k x i y T sz n:Nat}{f:Nat->List SV}{m:Option Nat}(h:own[k]?=some (.row T sz n f m))(hi:i<n):WN own (.oel k x i y):=by unfold WN;simp only[h];exact hi
def f15:AM
 | [.agg [.int .u8 K,.int .i64 C],.agg [.int .i64 X,.int .i64 Y,.int .u8 Q]]=>some ((0<=K/\K<=4)/\(-60001<=C/\C<=60001)/\(-30000<=X/\X<=30000)/\(-30000<=Y/\Y<=30000)/\0<=Q/\Q<=3,.int .u8 (if VO K C X Y Q<6*C then 0 else 1))
 |_=>none
def FSi28:Fam:=⟨Int×Int×Int×Int×Int,λ(K,C,X,Y,Q)=>[.agg [.int .u8 K,.int .i64 C],.agg [.int .i64 X,.int .i64 Y,.int .u8 Q]],λ(K,C,X,Y,Q)=>(0<=K/\K<=4)/\(-60001<=C/\C<=60001)/\(-30000<=X/\X<=30000)/\(-30000<=Y/\Y<=30000)/\0<=Q/\Q<=3,λ(K,C,X,Y,Q)=>.int .u8 (if VO K C X Y Q<6*C then 0 else 1)⟩
theorem pSi28:PS 67 f15:=by
 refine con [(50,d5u)] (by simpa using pIn25) FSi28 (λ_ _=>none) f15 ?_ ?_ Tryz.func67 Dw Dw Dw ?_
 .intro args pre s h a;unfold f15 at h;split at h
  .rename_i K C X Y Q;cases h;exact⟨(K,C,X,Y,Q),by simp[FSi28,BM,SV.le2,SV.le1,BH,SV.le0],a,rfl⟩
  .cases h
 .exact Bz
 .rintro⟨K,C,X,Y,Q⟩ a;replace a:(0<=K/\K<=4)/\(-60001<=C/\C<=60001)/\(-30000<=X/\X<=30000)/\(-30000<=Y/\Y<=30000)/\0<=Q/\Q<=3:=a;have i1:=@in_le X Q Dv;have i2:=@f5s Y Q Dv;have b:K=0\/K=1\/K=2\/K=3\/K=4:=Dv;rcases b with rfl|rfl|rfl|rfl|rfl;all_goals refine X0 _ ?_;(repeat' first|constructor|intro h)<;>refine Lm ?_
  all_goals(try(with_reducible show WN _ _
                exact QQ rfl Dy))
  all_goals(try(with_reducible show AE _ _
                simp only[AE];omega))
  all_goals(try(with_reducible show _=ite _ _ _
                simp only[Ig]at h;first|exact(Iz h).symm|exact(J3 h).symm))
  all_goals(first|exact⟨Dy,Dy⟩|exact Bx)
def IEd28:Int×Int×Int×Int->Nat->Option Inv
 |(W,H,a,b),2=>some {β:=Nat,ok:=λk=>1<=k/\k<=3/\∀j:Nat,1<=j->j<k->BK W H a j≠b,st:=λk=>⟨[⟨7,none,.int .i64 k⟩,⟨6,none,.int .u8 0⟩,⟨3,none,.own 0 0⟩,⟨2,none,.int .i64 b⟩,⟨1,none,.int .i64 a⟩],[.cells 26 [.int .i64 W,.int .i64 H]]⟩,μ:=λk=>3-k}
 |_,_=>none
def f1x:AM
 | [.agg [.int .i64 W,.int .i64 H],.int .i64 a,.int .i64 b]=>some (AV W H=0/\(0<=a/\a<4*W*H)/\0<=b/\b<4*W*H,.int .u8 (Ue W H a b))
 |_=>none
def FEd28:Fam:=⟨Int×Int×Int×Int,λ(W,H,a,b)=>[.agg [.int .i64 W,.int .i64 H],.int .i64 a,.int .i64 b],λ(W,H,a,b)=>AV W H=0/\(0<=a/\a<4*W*H)/\0<=b/\b<4*W*H,λ(W,H,a,b)=>.int .u8 (Ue W H a b)⟩
theorem pEd28:PS 65 f1x:=by
 refine con [(41,SN)] (by simpa using Yh) FEd28 IEd28 f1x ?_ ?_ Tryz.func65 Dw Dw Dw ?_
 .intro args pre s h g;unfold f1x at h;split at h
  .rename_i W H a b;cases h;exact⟨(W,H,a,b),by simp[FEd28,BM,SV.le2,SV.le1,BH,SV.le0],g,rfl⟩
  .cases h
 .exact C1
 .rintro⟨W,H,a,b⟩ ⟨hs,⟨f,l⟩,m,gm⟩;have n:a.tmod 4=a%4:=K3 f;have o:b.tmod 4=b%4:=K3 m;refine X0 _ ?_;(repeat' first|constructor|intro h)<;>refine Lm ?_
  refine⟨(1:Nat),⟨J9 _,by show 1<=3;omega,λj h1 r=>by have:j<1:=r;omega⟩,?_,?_⟩
  .exact X1b
  .intro k d;replace d:1<=k/\k<=3/\∀j:Nat,1<=j->j<k->BK W H a j≠b:=d;obtain⟨k1,k2,k3⟩:=d;refine X0 _ ?_;(repeat' first|constructor|intro h)<;>refine Lm ?_
   all_goals(try simp only[n,o,Ig,Ib,Ii]at*)
   all_goals(try first
    |exact⟨hs,f,l⟩
    |exact Ap
    |exact An)
   all_goals(try first
    |(have t:k=1\/k=2:=by omega
      have u:BK W H a 1=b\/BK W H a 2=b:=by
       rcases t with rfl|rfl
       .exact .inl Dz
       .exact .inr Dz
      unfold Ue;rw[Iz u];first|(rw[Iz Dv];done)|(rw[J3 Dv];done))
    |(unfold Ue
      rw[J3];rintro(q|q)
      .exact k3 1 Dv Dv q
      .exact k3 2 Dv Dv q))
   all_goals
    refine⟨k+1,⟨by show 1<=k+1;omega,Ej,λj v w=> ?_⟩,Ee,?_⟩
    .by_cases e:j=k
     .subst e;assumption
     .exact k3 j v (by have:j<k+1:=w;omega)
    .exact X1d
def PE:RT Int:=⟨1,λn=>[.int .u8 n],λl=>match l with
 | [.int _ a]=>a
 |_=>0,0,λ_=>rfl⟩
def Uw:AM
 | [x]=>(PP x).map λq=>(q.1/\(∀c∈q.2.l,AE .u8 c.e)/\BE q.2=0,.sl 1 (IB q.2).length (PE.row (IB q.2)) none)
 |_=>none
def FTab:Fam:=⟨Pt,λp=>[Eo p],λp=>p.l.length<=100000/\(∀c∈p.l,AE .u8 c.e)/\BE p=0,λp=>.sl 1 (IB p).length (PE.row (IB p)) none⟩
def d6h(p:Pt)(f:Nat->List SV)(a:List Blk):List Blk:=.cells 29 [.int .i64 p.W,.int .i64 p.H,.sl 3 p.l.length (DZ p.l) none]::.row 49 1 (3*AJ p.W p.H) f none::a
abbrev CD(p:Pt)(i:Nat):Cr:=p.l.getD i d0
abbrev IW(p:Pt)(i:Nat):Int:=AG p.W p.H (CD p i).c (CD p i).e
def Rx(p:Pt)(i:Nat)(b:Bool)(j:Nat):List SV:=[.int .u8 (if b=true then IX p.W p.H (p.l.take (i+1)) j else IX p.W p.H (p.l.take i) j)]
def d9i(p:Pt)(i:Nat)(b:Bool)(j:Nat):List SV:=[.int .u8 (if b=true then IX p.W p.H (p.l.take (i+1)) j else if j=(3*(CD p i).c+CV ((CD p i).c%4) (CD p i).e).toNat then(CD p i).k else IX p.W p.H (p.l.take i) j)]
theorem d1m{p:Pt}{i n:Nat}{b:Bool}{x:SV}:over (Rx p i b n) 0 [x]=[x]:=rfl
theorem c9k{p:Pt}{i n:Nat}{b:Bool}{x:SV}:over (d9i p i b n) 0 [x]=[x]:=rfl
theorem YX(p:Pt):(IB p).length=3*AJ p.W p.H:=by simp[IB]
theorem f6r{p:Pt}{j:Nat}(a:j<3*AJ p.W p.H):Rx p p.l.length false j=PE.row (IB p) j:=by unfold Rx RT.row IB;rw[Kx,Ix,Jr,Nc a];rfl
def ITab(p:Pt):Nat->Option Inv
 |3=>some {β:=Nat,ok:=λi=>i<=p.l.length,st:=λi=>⟨[⟨4,none,.int .i64 i⟩,⟨3,none,.osl 1⟩,⟨1,none,.own 0 0⟩],d6h p (Rx p i false) []⟩,μ:=λi=>p.l.length-i,sub:=λi=>some fun
  |7=>some {β:=Nat,ok:=λk=>k<=3/\i<p.l.length,st:=λk=>⟨[⟨6,none,.int .i64 k⟩,⟨5,none,.own 2 0⟩,⟨4,none,.int .i64 i⟩,⟨3,none,.osl 1⟩,⟨1,none,.own 0 0⟩],d6h p (Rx p i (decide (CV ((CD p i).c%4) (CD p i).e<k))) [.cells 51 (Xx (CD p i))]⟩,μ:=λk=>3-k,sub:=λk=>some fun
   |13=>some {β:=Nat,ok:=λm=>m<=3/\i<p.l.length/\k=CV ((CD p i).c%4) (CD p i).e,st:=λm=>⟨[⟨8,none,.int .i64 m⟩,⟨7,none,.int .i64 (IW p i)⟩,⟨6,none,.int .i64 k⟩,⟨5,none,.own 2 0⟩,⟨4,none,.int .i64 i⟩,⟨3,none,.osl 1⟩,⟨1,none,.own 0 0⟩],d6h p (d9i p i (decide (CV (IW p i%4) (CD p i).e<m))) [.cells 51 (Xx (CD p i))]⟩,μ:=λm=>3-m}
   |_=>none}
  |_=>none}
 |_=>none
theorem pTab:PS 40 Uw:=by
 refine con [(41,SN),(80,d8g)] (by simpa using⟨Yh,pEd25⟩) FTab ITab Uw ?_ ?_ Tryz.func40 Dw Dw Dw ?_
 .intro args pre s h hp;unfold Uw at h;split at h
  .simp only[Ic]at h;obtain⟨⟨a,p⟩,hx,rfl,rfl⟩:=h;exact Cy
  .cases h
 .exact C0
 .intro(p:Pt) hp;replace hp:p.l.length<=100000/\(∀c∈p.l,AE .u8 c.e)/\BE p=0:=hp;obtain⟨c9,F,A⟩:=hp;have hs:=(FO A).1;have hw:=GW hs;have hN:=CR hs;have hWH:4*p.W*p.H=4*(p.W*p.H):=Li 4 p.W p.H;have hWH2:12*p.W*p.H=12*(p.W*p.H):=Li 12 p.W p.H;have B:(12*p.W*p.H).toNat=3*AJ p.W p.H:=Dv;refine X0 _ ?_;(repeat' first|constructor|intro h)<;>refine Lm ?_
  all_goals(try simp only[B])
  all_goals(try first
   |exact Ap
   |exact An
   |exact At)
  refine⟨(0:Nat),Je _,?_,?_⟩
  .refine X0 _ ?_;(repeat' first|constructor|intro h)<;>refine Lm ?_
   all_goals first|exact A2|(intro j o;show _=[SV.int .u8 (IX p.W p.H [] j)];rw[tab_0];rfl)|skip
  .intro i G;replace G:i<=p.l.length:=G;have Q:i<p.l.length->AU p (CD p i).c/\(0<=(CD p i).e/\(CD p i).e<3)/\AX p.W p.H (CD p i).c (CD p i).e=0/\EI p.W p.H (CD p i).c (CD p i).e=(CD p i).c:=λh=>d2c A F (BW h);refine X0 _ ?_;(repeat' first|constructor|intro h)<;>refine Lm ?_
   all_goals(try simp only[Ia]at*)
   all_goals(try first|exact Ap)
   .have g:i<p.l.length:=Dv;obtain⟨d,n,w,c4⟩:=Q g;have jx:=@Ot ((CD p i).c%4) (CD p i).e;have hm3:=@Ot (IW p i%4) (CD p i).e;obtain⟨⟨r,t⟩,_⟩:=FL hs d.1 d.2 n w;obtain⟨I,J⟩:=Qx hs d.1 d.2 n w;have m1':0<=IW p i:=r;have m2':IW p i<4*p.W*p.H:=t;have zq:=d.2;have P6:=d.1;have e3c:3*(CD p i).c+((CV ((CD p i).c%4) (CD p i).e:Nat):Int)<3*AJ p.W p.H:=Dv;refine⟨(0:Nat),⟨by show (0:Nat)<=3;omega,g⟩,?_,?_⟩
    .refine X0 _ ?_;(repeat' first|constructor|intro h)<;>refine Lm ?_
     all_goals first|exact A2|(intro j o;show Rx p i false j=Rx p i (decide (_<0)) j;rw[Ji Dv])|skip
    .intro k K;replace K:k<=3/\i<p.l.length:=K;have L:k<3->(kE ((CD p i).c%4) k=(CD p i).e↔k=CV ((CD p i).c%4) (CD p i).e):=λh=>Su Nu n k h;refine X0 _ ?_;(repeat' first|constructor|intro h)<;>refine Lm ?_
     all_goals(try simp only[Ia,Ib,Ii]at*)
     all_goals(try first
      |omega
      |exact⟨hs,d.1,d.2⟩
      |(intro _;exact⟨hs,d.1,d.2⟩)
      |exact A7)
     ·-- not this edge
      have b9:k≠CV ((CD p i).c%4) (CD p i).e:=λe=>by
       have C:BK p.W p.H (CD p i).c k=IW p i:=by rw[e];exact d6x n w
       rcases h with h|h
       .rw[C]at h;omega
       .exact h ((L Dv).2 e)
      refine⟨k+1,⟨Ej,g⟩,Ee,?_⟩;have E:decide (CV ((CD p i).c%4) (CD p i).e<k)=decide (CV ((CD p i).c%4) (CD p i).e<k+1):=by rw[decide_eq_decide];omega
      rw[E];exact X1d
     .have u:k=CV ((CD p i).c%4) (CD p i).e:=(L Dv).1 h.2;have C:BK p.W p.H (CD p i).c k=IW p i:=by rw[u];exact d6x n w
      rw[C];refine⟨(0:Nat),⟨by show (0:Nat)<=3;omega,g,u⟩,?_,?_⟩
      .refine X0 _ ?_;(repeat' first|constructor|intro h)<;>refine Lm ?_
       all_goals first
        |exact A2
        |(intro j o
          rw[d1m,Ji (show¬CV ((CD p i).c%4) (CD p i).e<k from Dv),Ji (show¬CV (IW p i%4) (CD p i).e<0 from Dv)];unfold Rx d9i;rw[<-u];by_cases e:j=(3*(CD p i).c+(k:Int)).toNat
          .rw[Jf e,J3 Dy,Iz e];rfl
          .rw[Ji e,J3 Dy,J3 Dy,J3 e];rfl)
        |skip
      .intro m M;replace M:m<=3/\i<p.l.length/\k=CV ((CD p i).c%4) (CD p i).e:=M;have N:m<3->(BK p.W p.H (IW p i) m=(CD p i).c↔m=CV (IW p i%4) (CD p i).e):=λR=>by
        rw[<-Su Nu n m R];constructor
        .intro q;unfold BK at q;split at q
         .rename_i S;have O:=(FL hs r t LF S).2;have P:=(FL hs r t n I).2;rw[q]at O;rw[J,O]at P;exact UZ (IA hs r t).2.2.1 LF n P
         .omega
        .intro q;unfold BK;rw[q,Iz I];exact J
       refine X0 _ ?_;(repeat' first|constructor|intro h)<;>refine Lm ?_
       all_goals(try simp only[Ia]at*)
       all_goals(try first
        |omega
        |exact⟨hs,r,t⟩
        |(intro _;exact⟨hs,r,t⟩)
        |exact A7)
       all_goals(try first
        |(show (3*IW p i+(m:Int)).toNat<3*AJ p.W p.H;omega)
        |exact Ae)
       .have v:m=CV (IW p i%4) (CD p i).e:=(N Dv).1 h;refine⟨m+1,⟨by show m+1<=3;omega,g,u⟩,by show 3-(m+1)<3-m;omega,?_⟩;refine X0 _ ?_;(repeat' first|constructor|intro h)<;>refine Lm ?_
        all_goals first
         |exact Ar
         |skip
        intro j o;rw[c9k,Ji (show¬CV (IW p i%4) (CD p i).e<m from Dv),Jf (show CV (IW p i%4) (CD p i).e<m+1 from Dv)];unfold d9i;simp only[Ke,Ik];rw[d8j A F g rfl rfl o,<-u,<-v];have T:∀x y:Int,(if j=(3*(p.l.getD i d0).c+(k:Int)).toNat\/j=(3*AG p.W p.H (p.l.getD i d0).c (p.l.getD i d0).e+(m:Int)).toNat then x else y)=if j=(3*IW p i+(m:Int)).toNat then x else if j=(3*(CD p i).c+(k:Int)).toNat then x else y:=λx y=>by
         by_cases f:j=(3*IW p i+(m:Int)).toNat
         .rw[Iz (.inr f),Iz f]
         .rw[J3 f];by_cases z:j=(3*(CD p i).c+(k:Int)).toNat
          .rw[Iz (.inl z),Iz z]
          .rw[J3 z,J3 (λq=>q.elim z f)]
        rw[T];by_cases f:j=(3*IW p i+(m:Int)).toNat
        .rw[Jf f,Iz f];rfl
        .rw[Ji f,J3 f];rfl
       .have v:m≠CV (IW p i%4) (CD p i).e:=λe=>h ((N Dv).2 e);refine⟨m+1,⟨by show m+1<=3;omega,g,u⟩,by show 3-(m+1)<3-m;omega,?_⟩;have E:decide (CV (IW p i%4) (CD p i).e<m)=decide (CV (IW p i%4) (CD p i).e<m+1):=by
         rw[decide_eq_decide];omega
        rw[E];exact X1d
       .have U:m=3:=Dv;refine⟨k+1,⟨Ej,g⟩,Ee,?_⟩;rw[Jf (show CV (IW p i%4) (CD p i).e<m from Dv),Jf (show CV ((CD p i).c%4) (CD p i).e<k+1 from Dv)];exact X1d
     .have U:k=3:=Dv;refine⟨i+1,Ea,by show p.l.length-(i+1)<p.l.length-i;omega,?_⟩;rw[Jf (show CV ((CD p i).c%4) (CD p i).e<k from Dv)];exact X1d
   all_goals
    have V:i=p.l.length:=Dv;subst V;first|(with_reducible exact(YX p).symm)|(with_reducible exact λj o=>f6r o)|skip
def f9d(p:Pt)(r:Mv):SV:=.tup [.sl 3 (BL p r).length (AH.row (BL p r)) none,.int .i64 1]
def Vy:AM
 | [x,y]=>(Qy [x,y]).map λq=>(q.1/\CH q.2.1 q.2.2=0,f9d q.2.1 q.2.2)
 |_=>none
def FPl25:Fam:=⟨Pt×Mv,λ(p,r)=>[Eo p,ID r],λ(p,r)=>prOK p r/\CH p r=0,λ(p,r)=>f9d p r⟩
def GK(kn:List Bool)(j:Nat):Bool:=kn.getD j false
def Uh(p:Pt)(r:Mv)(kn:List Bool)(j:Nat):List SV:=AH.sv (if GK kn j=true then AD p r j else⟨0,0,0⟩)
def Vh(p:Pt)(kn:List Bool)(i:Int):Prop:=∀e:Int,0<=e/\e<3->GK kn i.toNat=true->AX p.W p.H i e=0->GK kn (AG p.W p.H i e).toNat=true
def clK(p:Pt)(kn:List Bool)(a:Int)(k:Nat):Prop:=∀m:Nat,m<k->GK kn a.toNat=true->AX p.W p.H a (kE (a%4) m)=0->GK kn (AG p.W p.H a (kE (a%4) m)).toNat=true
def f85(p:Pt)(r:Mv)(kn:List Bool):List Blk:=[.cells 29 [.int .i64 p.W,.int .i64 p.H,.sl 3 p.l.length (DZ p.l) none],.cells 31 [.int .u8 r.t,.int .i64 r.x,.int .i64 r.y],.row 31 3 (AJ p.W p.H) (Uh p r kn) none,.row 4 1 (AJ p.W p.H) (λj=>[.bool (GK kn j)]) none]
def plSt(p:Pt)(a:List Entry)(more:Bool):List Entry:=a++[⟨10,none,.bool more⟩,⟨9,none,.sl 1 (IB p).length (PE.row (IB p)) none⟩,⟨8,none,.osl 3⟩,⟨7,none,.osl 2⟩,⟨6,none,.int .i64 (4*p.W*p.H)⟩,⟨2,none,.own 0 0⟩]
def plOK(p:Pt)(kn:List Bool):Prop:=kn.length=AJ p.W p.H/\GK kn 0=true
def IPl25:Pt×Mv->Nat->Option Inv
 |(p,r),9=>some {β:=List Bool×Bool,ok:=λ(b,more)=>plOK p b/\(more=false->∀i:Int,AU p i->Vh p b i),st:=λ(b,more)=>⟨plSt p [] more,f85 p r b⟩,μ:=λ(b,more)=>2*b.count false+(if more=true then 1 else 0),sub:=λ(c,_)=>some fun
  |12=>some {β:=Int×List Bool×Bool,ok:=λ(a,b,more)=>(0<=a/\a<=AJ p.W p.H)/\plOK p b/\b.count false<=c.count false/\(more=true->b.count false<c.count false)/\(more=false->∀i:Int,0<=i->i<a->Vh p b i),st:=λ(a,b,more)=>⟨plSt p [⟨11,none,.int .i64 a⟩] more,f85 p r b⟩,μ:=λ(a,_)=>AJ p.W p.H-a.toNat,sub:=λ(a,_)=>some fun
   |15=>some {β:=Nat×List Bool×Bool,ok:=λ(k,b,more)=>k<=3/\AU p a/\plOK p b/\b.count false<=c.count false/\(more=true->b.count false<c.count false)/\(more=false->(∀i:Int,0<=i->i<a->Vh p b i)/\clK p b a k),st:=λ(k,b,more)=>⟨plSt p [⟨12,none,.int .i64 k⟩,⟨11,none,.int .i64 a⟩] more,f85 p r b⟩,μ:=λ(k,_)=>3-k}
   |_=>none}
  |_=>none}
 |_,_=>none
section
variable{p:Pt}{r:Mv}
theorem f37{kn:List Bool}{a:Int}{k:Nat}(h:clK p kn a k)(b:k=3\/GK kn a.toNat=false):Vh p kn a:=by
 intro e d c f;rcases b with rfl|b
 .have g:=@Ot (a%4) e;have:=h (CV (a%4) e) g c;rw[SE Nu d]at this;exact this f
 .rw[b]at c;cases c
theorem cl_all{kn:List Bool}(hs:AV p.W p.H=0)(d:GK kn 0=true)(f:∀i:Int,AU p i->Vh p kn i):∀j,j<AJ p.W p.H->GK kn j=true:=by
 have hN:=CR hs;have:=b3d (kn:=λj=>decide (j<AJ p.W p.H)&&GK kn j) hs (λi e a b c=> ?_) ?_
 .intro j g;have:=this j g;simp only[Jt]at this;exact this.2
 .simp only[Ij]at b⊢;have nb:=(FL hs (i:=(i:Int)) Dv Dv a c).1;exact⟨Dv,f (i:Int) ⟨Dv,Dv⟩ e a b.2 c⟩
 .simp only[Ij];exact⟨Dv,d⟩
theorem kn_set{kn:List Bool}{n:Nat}(a:n<kn.length)(j:Nat):GK (kn.set n true) j=if j=n then true else GK kn j:=by unfold GK;exact NX a
theorem pl_nb(f:BE p=0){a:Int}{k:Nat}(b:AU p a)(i:k<3)(hb:¬BK p.W p.H a k<0):AX p.W p.H a (kE (a%4) k)=0/\BK p.W p.H a k=AG p.W p.H a (kE (a%4) k)/\(0<=BK p.W p.H a k/\BK p.W p.H a k<4*p.W*p.H)/\(IB p).getD (3*a+k).toNat PE.d=AW p a (kE (a%4) k):=by
 have hs:=(FO f).1;have hN:=CR hs;have Yu:=b.1;have Zw:=b.2;have c:AX p.W p.H a (kE (a%4) k)=0:=by
  by_cases q:AX p.W p.H a (kE (a%4) k)=0
  .exact q
  .exfalso;have:BK p.W p.H a k= -1:=J3 q;omega
 have j:BK p.W p.H a k=AG p.W p.H a (kE (a%4) k):=Iz c;have nb:=(FL hs b.1 b.2 LF c).1;refine⟨c,j,Dv,?_⟩;obtain⟨e,m⟩:=Ww (a:=a) b.1 i;have n:(3*a+(k:Int)).toNat<3*AJ p.W p.H:=Dv;have g:uE (3*a+(k:Int)).toNat=kE (a%4) k:=by unfold uE;rw[e,m]
 have:(IB p).getD (3*a+(k:Int)).toNat PE.d=IX p.W p.H p.l (3*a+(k:Int)).toNat:=by unfold IB;rw[Ix,Jr,Nc n];rfl
 rw[this,d51 f (by rw[g,e];exact c),e,g]
theorem m25_sm{a b c d e f:Int}(h:((0<=a/\a<=300)/\(0<=b/\b<=300)/\0<=c/\c<=3)/\(0<=d/\d<=300)/\(0<=e/\e<=300)/\0<=f/\f<=3):(0<=(EU (a,b,c) (d,e,f)).1/\(EU (a,b,c) (d,e,f)).1<=7)/\(-20000<=(EU (a,b,c) (d,e,f)).2.1/\(EU (a,b,c) (d,e,f)).2.1<=20000)/\ -20000<=(EU (a,b,c) (d,e,f)).2.2/\(EU (a,b,c) (d,e,f)).2.2<=20000:=by
 unfold EU;repeat' split
 all_goals(dsimp only at*;omega)
theorem g0d(l:BE p=0)(G:PlcG p (AD p r)){a b e:Int}(d:AU p a)(f:0<=e/\e<3)(g:AX p.W p.H a e=0)(m:b=AG p.W p.H a e):(AW p a e=0->AD p r b=AD p r a)/\(AW p a e≠0->tt (EU (a/4%p.W,a/4/p.W,a%4) (b/4%p.W,b/4/p.W,b%4)).1 (AD p r a).t=(AD p r b).t/\(AR (AD p r a).t (EU (a/4%p.W,a/4/p.W,a%4) (b/4%p.W,b/4/p.W,b%4)).2.1 (EU (a/4%p.W,a/4/p.W,a%4) (b/4%p.W,b/4/p.W,b%4)).2.2).1+(AD p r a).x=(AD p r b).x/\(AR (AD p r a).t (EU (a/4%p.W,a/4/p.W,a%4) (b/4%p.W,b/4/p.W,b%4)).2.1 (EU (a/4%p.W,a/4/p.W,a%4) (b/4%p.W,b/4/p.W,b%4)).2.2).2+(AD p r a).y=(AD p r b).y):=by subst m;have hs:=(FO l).1;have h:=G.cr a e d f g;obtain⟨i,n,_⟩:=JU hs d f g;have j:=HV hs d.1 d.2;have o:=HV hs i.1 i.2;refine⟨λk=>by rw[h,Iz k],λk=> ?_⟩;rw[J3 k]at h;have c:=g15 (ML hs d) f;rw[<-n]at c;unfold DN at c;rw[j,o]at c;simp only at c;rw[<-j]at c;rw[h,<-c];exact Ce
end
theorem f8x:PS 14 Vy:=by
 refine con [(40,Uw),(41,SN),(43,Qd),(42,YO),(20,Xt)] (by simpa using⟨pTab,Yh,TH,pM25,pTh25⟩) FPl25 IPl25 Vy ?_ ?_ Tryz.func14 Dw Dw Dw ?_
 .intro args pre s h hp;unfold Vy at h;split at h
  .simp only[Ic]at h;obtain⟨⟨q,p,r⟩,hx,rfl,rfl⟩:=h;obtain⟨A,B⟩:=c0f hx hp.1;exact⟨(p,r),A,⟨B,hp.2⟩,rfl⟩
  .cases h
 .exact Bz
 .rintro⟨p,r⟩ ⟨⟨⟨c9,c8⟩,hr⟩,Y⟩;obtain⟨Q,O9,_,_⟩:=Qi Y;obtain⟨G,G0,GV⟩:=c2h hr.1 Y;have P:=PJ hr.1 Y;have fg:=P.pl;have hs:=(FO Q).1;have hw:=GW hs;have hN:=CR hs;have hWH:4*p.W*p.H=4*(p.W*p.H):=Li 4 p.W p.H;have v:(4*p.W*p.H).toNat=AJ p.W p.H:=rfl;refine X0 _ ?_;(repeat' first|constructor|intro h)<;>refine Lm ?_
  all_goals(try simp only[v,CU]at*)
  all_goals(try first
   |exact Ap
   |exact An
   |exact⟨⟨FF _,c9⟩,c8,Q⟩
   |exact Ae
   |exact At)
  all_goals(try simp only[Ig]at h)
  all_goals(try(exfalso;omega))
  refine⟨((List.replicate (AJ p.W p.H) false).set 0 true,true),⟨⟨Dx,OJ _ 0 Dv⟩,λq=>by cases q⟩,?_,?_⟩
  .refine X0 _ ?_;(repeat' first|constructor|intro h)<;>refine Lm ?_
   all_goals first
    |exact A2
    |(intro j E
      have e0:GK ((List.replicate (AJ p.W p.H) false).set 0 true) j=decide (j=0):=OJ _ j Dv;first
       |(show DC (decide (j=0)) [SV.bool true] [SV.bool false]=[SV.bool (GK _ j)]
         rw[e0];by_cases q:j=0
         .rw[Jf q];rfl
         .rw[Ji q];rfl)
       |(show DC (decide (j=0)) (AH.sv r) (AH.sv ⟨0,0,0⟩)=Uh p r _ j
         unfold Uh;rw[e0];by_cases q:j=0
         .subst q;rw[Jf rfl,Iz rfl,show AD p r ((0:Nat):Int)=r from G0];rfl
         .rw[Ji q];rfl))
    |skip
  .rintro⟨kn,more⟩ Z;replace Z:plOK p kn/\(more=false->∀i:Int,AU p i->Vh p kn i):=Z;obtain⟨ok,fu⟩:=Z;refine X0 _ ?_;(repeat' first|constructor|intro h)<;>refine Lm ?_
   all_goals(try simp only[]at*)
   all_goals(try first
    |exact Ap)
   ·-- once more
    have C:more=true:=h;refine⟨((0:Int),kn,false),⟨⟨Mt _,by show (0:Int)<=AJ p.W p.H;omega⟩,ok,J9 _,(λq=>by cases q),λ_ i R w=>absurd w (by show¬i<0;omega)⟩,?_,?_⟩
    .exact X1b
    .rintro⟨a,ka,S⟩ ⟨⟨a0,a1⟩,a2,a3,a4,a5⟩;refine X0 _ ?_;(repeat' first|constructor|intro h)<;>refine Lm ?_
     all_goals(try simp only[Ig]at*)
     all_goals(try first
      |exact Ap)
     .have c:AU p a:=⟨a0,Dv⟩
      have Zw:=c.2;have zt:a.toNat<AJ p.W p.H:=Dv;refine⟨(0,ka,S),⟨by show 0<=3;omega,c,a2,a3,a4,λq=>⟨a5 q,λm hm=>absurd hm (Jq _)⟩⟩,?_,?_⟩
      .exact X1b
      .rintro⟨k,kb,F⟩ ⟨b1,_,n,I,J,l⟩;have bg:=c;have vq:=GV a bg;have sj:=Oy vq;have S6:=Nz vq;unfold FR at sj;have nbf:=λ(A:k<3) (B:¬BK p.W p.H a k<0)=>pl_nb Q c A B;have K:∀u,AU p u->(0<=u/4%p.W/\u/4%p.W<=300)/\(0<=u/4/p.W/\u/4/p.W<=300)/\0<=u%4/\u%4<=3:=λu T=>by
        have:=OW hs T.1 T.2;rw[HV hs T.1 T.2]at this;exact this
       have w1:=K a bg;by_cases U:GK kb a.toNat=true;rotate_left
       .have hkF:GK kb a.toNat=false:=by cases h:GK kb a.toNat with
         |true=>exact absurd h U
         |false=>rfl
        refine X0 _ ?_;(repeat' first|constructor|intro h)<;>refine Lm ?_
        all_goals(try simp only[Ia,If,Ib]at*)
        all_goals(try(exfalso;simp_all;done))
        all_goals(try first
         |exact Ap
         |(intro _;exact QQ rfl zt))
        refine⟨(a+1,kb,F),⟨⟨by show 0<=a+1;omega,Gq⟩,n,I,J,λq i R w=> ?_⟩,by show _-(a+1).toNat<_-a.toNat;omega,?_⟩
        .by_cases zr:i=a
         .subst zr;exact f37 (l q).2 (.inr hkF)
         .exact(l q).1 i R (by have:i<a+1:=w;omega)
        .exact X1b
       .by_cases jx:k<3;rotate_left
        .refine X0 _ ?_;(repeat' first|constructor|intro h)<;>refine Lm ?_
         all_goals(try simp only[Ia,If,Ib]at*)
         all_goals(try(exfalso;omega))
         all_goals(try first
          |exact Ap
          |(intro _;exact QQ rfl zt))
         refine⟨(a+1,kb,F),⟨⟨by show 0<=a+1;omega,Gq⟩,n,I,J,λq i R w=> ?_⟩,by show _-(a+1).toNat<_-a.toNat;omega,?_⟩
         .by_cases zr:i=a
          .subst zr;exact f37 (l q).2 (.inl Dv)
          .exact(l q).1 i R (by have:i<a+1:=w;omega)
         .exact X1b
        .by_cases L:BK p.W p.H a k<0
         .have b9:¬AX p.W p.H a (kE (a%4) k)=0:=λq=>by
           have e:BK p.W p.H a k=AG p.W p.H a (kE (a%4) k):=Iz q;have:=(FL hs c.1 c.2 LF q).1;omega
          refine X0 _ ?_;(repeat' first|constructor|intro h)<;>refine Lm ?_
          all_goals(try simp only[Ia,If,Ib]at*)
          all_goals(try(exfalso;first|omega|exact h L|(rcases h with h|h;omega;(rw[U]at h;cases h))|(rename_i h9;exact h9 L)))
          all_goals(try first
           |exact Ap
           |exact⟨hs,Dv,Dv⟩
           |(intro _;exact QQ rfl zt))
          refine⟨(k+1,kb,F),⟨Ej,c,n,I,J,λq=>⟨(l q).1,λm hm p9 V=> ?_⟩⟩,Ee,?_⟩
          .by_cases U0:m=k
           .subst U0;exact absurd V b9
           .exact(l q).2 m Dv p9 V
          .exact X1d
         .obtain⟨f1,f2,f3,f4⟩:=nbf jx L;obtain⟨g1,g2⟩:=g0d Q G bg LF f1 f2;have w2:=K _ f3;have pb:=m25_sm ⟨w1,w2⟩;have wu:((a.toNat:Nat):Int)=a:=Dv;have T6:(BK p.W p.H a k).toNat<AJ p.W p.H:=Dv;have M:(((BK p.W p.H a k).toNat:Nat):Int)=BK p.W p.H a k:=Dv;have U1:(3*a+k).toNat<(IB p).length:=by rw[YX];omega
          have htl2:3*a+k<((IB p).length:Int):=by rw[YX];omega
          have f:GK kb (BK p.W p.H a k).toNat=true->clK p kb a k->clK p kb a (k+1):=λo hc m hm p9 V=>by
           by_cases U0:m=k
           .subst U0;rw[<-f2];exact o
           .exact hc m Dv p9 V
          have N:((kb.set (BK p.W p.H a k).toNat true)).length=AJ p.W p.H:=by rw[Kj];exact n.1
          have g:=λj=>@kn_set kb (BK p.W p.H a k).toNat (by rw[n.1];exact T6) j;have O:plOK p (kb.set (BK p.W p.H a k).toNat true):=⟨N,by rw[g];split;exact rfl;exact n.2⟩
          have x:GK kb (BK p.W p.H a k).toNat=false->(kb.set (BK p.W p.H a k).toNat true).count false+1=kb.count false:=λh=>b2t (by rw[n.1];exact T6) h;have y:∀j,DC (decide (j=(BK p.W p.H a k).toNat)) [SV.bool true] [SV.bool (GK kb j)]=[SV.bool (GK (kb.set (BK p.W p.H a k).toNat true) j)]:=λj=>by
           rw[g];by_cases e:j=(BK p.W p.H a k).toNat
           .rw[Jf e,Iz e];rfl
           .rw[Ji e,J3 e];rfl
          have z:∀(cs:List SV) (j:Nat),cs=AH.sv (AD p r (BK p.W p.H a k))->DC (decide (j=(BK p.W p.H a k).toNat)) cs (Uh p r kb j)=Uh p r (kb.set (BK p.W p.H a k).toNat true) j:=λcs j ga=>by
           unfold Uh;rw[g];by_cases e:j=(BK p.W p.H a k).toNat
           .rw[Jf e,Iz e,Iz rfl,ga,e,M];rfl
           .rw[Ji e,J3 e,ga];rfl
          by_cases X:AW p a (kE (a%4) k)=0
          .have t:=g1 X;have f5:(IB p).getD (3*a+k).toNat PE.d=0:=f4.trans X;refine X0 _ ?_;(repeat' first|constructor|intro h)<;>refine Lm ?_
           all_goals(try simp only[Ia,If,Ib,U,Ke,wu,M]at*)
           all_goals(try(exfalso;first|omega|exact h f5|exact L h|(rcases h with h|h;omega;cases h)|(obtain⟨A,B⟩:=h;(simp[A,t]at B;done))))
           all_goals(try first
            |exact Af)
           all_goals
            first
             |(have o:GK kb (BK p.W p.H a k).toNat=false:=h
               have nr:=x o;refine⟨(k+1,kb.set (BK p.W p.H a k).toNat true,true),⟨Ej,c,O,I4,(λ_=>I5),(λq=>by cases q)⟩,Ee,?_⟩;all_goals refine X0 _ ?_;(repeat' first|constructor|intro h)<;>refine Lm ?_
               all_goals first
                |exact Ar
                |(intro j E;exact y j)
                |(intro j E;exact z _ j (by rw[t];rfl))
                |skip)
             |(have o:GK kb (BK p.W p.H a k).toNat=true:=h
               refine⟨(k+1,kb,F),⟨Ej,c,n,I,J,λq=>⟨(l q).1,f o (l q).2⟩⟩,Ee,?_⟩;all_goals refine X0 _ ?_;(repeat' first|constructor|intro h)<;>refine Lm ?_
               all_goals first|exact Ar|skip)
             |skip
          .have t:=g2 X;have f5:¬(IB p).getD (3*a+k).toNat PE.d=0:=λq=>X (f4.symm.trans q);refine X0 _ ?_;(repeat' first|constructor|intro h)<;>refine Lm ?_
           all_goals(try simp only[Ia,If,Ib,U,Ke,wu,M]at*)
           all_goals(try(exfalso;first|omega|exact f5 h|exact L h|(rcases h with h|h;omega;cases h)|(obtain⟨A,B⟩:=h;(simp[A,t.1,t.2.1,t.2.2]at B;done))))
           all_goals(try first
            |exact Af)
           all_goals
            first
             |(have o:GK kb (BK p.W p.H a k).toNat=false:=h
               have nr:=x o;refine⟨(k+1,kb.set (BK p.W p.H a k).toNat true,true),⟨Ej,c,O,I4,(λ_=>I5),(λq=>by cases q)⟩,Ee,?_⟩;all_goals refine X0 _ ?_;(repeat' first|constructor|intro h)<;>refine Lm ?_
               all_goals first
                |exact Ar
                |(intro j E;exact y j)
                |(intro j E;exact z _ j (by unfold AH;simp only;rw[t.1,t.2.1,t.2.2];rfl))
                |skip)
             |(have o:GK kb (BK p.W p.H a k).toNat=true:=h
               refine⟨(k+1,kb,F),⟨Ej,c,n,I,J,λq=>⟨(l q).1,f o (l q).2⟩⟩,Ee,?_⟩;all_goals refine X0 _ ?_;(repeat' first|constructor|intro h)<;>refine Lm ?_
               all_goals first|exact Ar|skip)
             |skip
     .refine⟨(ka,S),⟨a2,λq i w=>a5 q i w.1 (by have:=w.2;omega)⟩,?_,?_⟩
      .show 2*ka.count false+(if S=true then 1 else 0)<2*kn.count false+(if more=true then 1 else 0);have hmt:more=true:=C;rw[Iz hmt];cases S with
       |true=>have:=a4 rfl;rw[Iz rfl];omega
       |false=>rw[J3 Dy];omega
      .exact X1b
   all_goals
    have bw:=cl_all hs ok.2 (fu h);first
     |(with_reducible exact fg.symm)
     |(intro j E
       unfold Uh RT.row;rw[Iz (bw j E)];unfold AD;rw[Jk])
     |rfl
     |skip
def EG:RT Pas:=⟨4,λx=>[.int .i64 x.a,.int .i64 x.b,.int .u8 x.K,.int .i64 x.C],λl=>match l with
 | [.int _ a,.int _ b,.int _ c,.int _ d]=>⟨a,b,c,d⟩
 |_=>⟨0,0,0,0⟩,⟨0,0,0,0⟩,λ_=>rfl⟩
section
variable{p:Pt}{r:Mv}{P:Int->Mv}
theorem f1e{j:Nat}(h:PV p P j=none):HB p P (j+1)=HB p P j:=by unfold HB;rw[Mj,List.filterMap_append];simp[h]
theorem f2j{j:Nat}{x:Pas}(h:PV p P j=some x):HB p P (j+1)=HB p P j++[x]:=by unfold HB;rw[Mj,List.filterMap_append];simp[h]
theorem d3g(n:Nat):(HB p P n).length<=n:=by unfold HB;refine Kq (List.length_filterMap_le _ _) ?_;simp
theorem f27{a k:Nat}(hk:k<3):uA (3*a+k)=a/\(3*a+k)%3=k:=by
 constructor
 .show (((3*a+k)/3:Nat):Int)=a;omega
 .omega
theorem pas_no{a k:Nat}(b:k<3)(h:BK p.W p.H a k<a\/¬IX p.W p.H p.l (3*a+k)=0):PV p P (3*a+k)=none:=by unfold PV;rw[(f27 b).1,(f27 b).2,Iz h]
theorem g1r{a k:Nat}(b:k<3)(h:¬BK p.W p.H a k<a/\IX p.W p.H p.l (3*a+k)=0):PV p P (3*a+k)=some ⟨a,BK p.W p.H a k,(GY (DN (AO p P a)) (DN (AO p P (BK p.W p.H a k)))).1,(GY (DN (AO p P a)) (DN (AO p P (BK p.W p.H a k)))).2⟩:=by unfold PV;rw[(f27 b).1,(f27 b).2,J3 Dv]
theorem c4f{j:Nat}(a:j<3*AJ p.W p.H):(IB p).getD j PE.d=IX p.W p.H p.l j:=by unfold IB;rw[Ix,Jr,Nc a];rfl
end
theorem sq_le{t X Y:Int}(hx:0<=X/\X<=300)(hy:0<=Y/\Y<=300):(-400<=(sq t X Y).1/\(sq t X Y).1<=400)/\ -400<=(sq t X Y).2/\(sq t X Y).2<=400:=by
 unfold sq;repeat' split
 all_goals(dsimp only;omega)
theorem f57{p:Pt}{P:Int->Mv}(hs:AV p.W p.H=0){a:Int}(b:AU p a):DN (AO p P a)=((sq (P a).t (a/4%p.W) (a/4/p.W)).1+(P a).x,(sq (P a).t (a/4%p.W) (a/4/p.W)).2+(P a).y,tq (P a).t (a%4)):=by unfold AO DN BU;rw[HV hs b.1 b.2]
def rPs28(p:Pt)(r:Mv):SV:=.sl 4 (HB p (AD p r) (3*AJ p.W p.H)).length (EG.row (HB p (AD p r) (3*AJ p.W p.H))) none
def Vp:AM
 | [x]=>(Ox x).map λq=>(q.1/\CH q.2.1 q.2.2.1=0,rPs28 q.2.1 q.2.2.1)
 |_=>none
def FPs28:Fam:=⟨Pt×Mv×List Stk,λ(p,r,L)=>[.agg (Fo p r L)],λ(p,r,L)=>(prOK p r/\FK L)/\CH p r=0,λ(p,r,_)=>rPs28 p r⟩
def psEn(p:Pt)(r:Mv)(a:List Entry):List Entry:=a++[⟨6,none,.osl 1⟩,⟨5,none,.sl 1 (IB p).length (PE.row (IB p)) none⟩,⟨3,none,.sl 3 (BL p r).length (AH.row (BL p r)) none⟩,⟨1,none,.own 0 0⟩]
def Xp(p:Pt)(r:Mv)(L:List Stk)(n:Nat):List Blk:=[.cells 34 (Fo p r L),.row 142 4 (HB p (AD p r) n).length (EG.row (HB p (AD p r) n)) none]
def IPs28:Pt×Mv×List Stk->Nat->Option Inv
 |(p,r,L),5=>some {β:=Nat,ok:=λa=>a<=AJ p.W p.H,st:=λa=>⟨psEn p r [⟨7,none,.int .i64 a⟩],Xp p r L (3*a)⟩,μ:=λa=>AJ p.W p.H-a,nl:=[.slot 6 142 4],sub:=λa=>some fun
  |8=>some {β:=Nat,ok:=λk=>k<=3/\a<AJ p.W p.H,st:=λk=>⟨psEn p r [⟨8,none,.int .i64 k⟩,⟨7,none,.int .i64 a⟩],Xp p r L (3*a+k)⟩,μ:=λk=>3-k}
  |_=>none}
 |_,_=>none
theorem f58:PF 66 Vp:=by
 refine conF {l:=[(14,Vy),(40,Uw),(41,SN),(43,Qd),(18,Ua),(94,d86)]} ⟨by simpa using⟨f8x,pTab,Yh,TH,pImg,pBe28⟩,Dx,Dx⟩ FPs28 IPs28 Vp ?_ ?_ Tryz.func66 Dw Dw Dw ?_
 .intro args pre s h O;unfold Vp at h;split at h
  .simp only[Ic]at h;obtain⟨⟨q,p,r,L⟩,hx,rfl,rfl⟩:=h;obtain⟨g,A,b⟩:=Sx hx O.1;exact⟨(p,r,L),⟨g,J5⟩,⟨⟨A,b⟩,O.2⟩,rfl⟩
  .cases h
 .exact C0
 .rintro⟨p,r,L⟩ ⟨⟨⟨⟨Q,S⟩,B⟩,hL⟩,w⟩;obtain⟨C,O9,_,_⟩:=Qi w;obtain⟨G,G0,z⟩:=c2h B.1 w;have V:=PJ B.1 w;have fg:=V.pl;have hs:=(FO C).1;have hN:=CR hs;have U1:=YX p;refine X0 _ ?_;(repeat' first|constructor|intro h)<;>refine Lm ?_
  all_goals(try simp only[CU,OC,Ns]at*)
  all_goals(try first
   |exact⟨⟨⟨⟨FF _,Q⟩,S⟩,B⟩,w⟩
   |exact⟨⟨FF _,Q⟩,S,C⟩)
  refine⟨(0:Nat),Je _,?_,?_⟩
  .exact X1a
  .intro a T;replace T:a<=AJ p.W p.H:=T;refine X0 _ ?_;(repeat' first|constructor|intro h)<;>refine Lm ?_
   all_goals(try simp only[Ia]at*)
   all_goals(try first|exact Ap)
   .have E:a<AJ p.W p.H:=Dv;refine⟨(0:Nat),⟨by show 0<=3;omega,E⟩,?_,?_⟩
    .exact X1b
    .intro k F;replace F:k<=3/\a<AJ p.W p.H:=F;obtain⟨k1,_⟩:=F;have m:AU p (a:Int):=⟨Dv,Dv⟩
     have hj:k<3->3*a+k<3*AJ p.W p.H:=λh=>Dv;have X:(3*(a:Int)+(k:Int)).toNat=3*a+k:=Dv;have U:=z a m;have Y:=Oy U;have S6:=Nz U;unfold FR at Y;have hpls:∀u,AU p u->(BL p r).getD u.toNat AH.d=AD p r u:=λu _=>rfl;have hw:=GW hs;have I:∀u,AU p u->(0<=u/4%p.W/\u/4%p.W<=300)/\(0<=u/4/p.W/\u/4/p.W<=300)/\0<=u%4/\u%4<=3:=λu c=>by have:=OW hs c.1 c.2;rw[HV hs c.1 c.2]at this;exact this
     have Z:(BL p r).getD a AH.d=AD p r a:=by unfold AD;rw[Int.toNat_natCast]
     have J:(BL p r).getD (BK p.W p.H a k).toNat AH.d=AD p r (BK p.W p.H a k):=rfl;have n:∀u,AU p u->((0<=(AD p r u).t/\(AD p r u).t<=7)/\((-50000<=(AD p r u).x/\(AD p r u).x<=50000)/\ -50000<=(AD p r u).y/\(AD p r u).y<=50000)/\(-30000<=u/4%p.W/\u/4%p.W<=30000)/\(-30000<=u/4/p.W/\u/4/p.W<=30000)/\0<=u%4/\u%4<=3)/\(-30000<=(sq (AD p r u).t (u/4%p.W) (u/4/p.W)).1+(AD p r u).x/\(sq (AD p r u).t (u/4%p.W) (u/4/p.W)).1+(AD p r u).x<=30000)/\(-30000<=(sq (AD p r u).t (u/4%p.W) (u/4/p.W)).2+(AD p r u).y/\(sq (AD p r u).t (u/4%p.W) (u/4/p.W)).2+(AD p r u).y<=30000)/\0<=tq (AD p r u).t (u%4)/\tq (AD p r u).t (u%4)<=3:=λu c=>by have g:=Oy (z u c);have A:=Nz (z u c);have b:=I u c;have h4:=@sq_le (AD p r u).t _ _ b.1 b.2.1;have h5:=f2c (FX (z u c)) b.2.2;unfold FR at g;refine⟨⟨g,⟨Dv,Dv⟩,Dv,Dv,Dv⟩,Dv,Dv,h5⟩
     have o:=n a m;have K:k<3->¬BK p.W p.H a k<a->AU p (BK p.W p.H a k):=λg A=>(pl_nb C m g Dv).2.2.1;refine X0 _ ?_;(repeat' first|constructor|intro h)<;>refine Lm ?_
     all_goals(try simp only[Ia,X,Z,J,Ii,Ib]at*)
     all_goals(try first
      |exact Ap
      |exact⟨hs,m.1,m.2⟩
      |(intro _;exact⟨Dv,Dv⟩)
      |exact An)
     .refine⟨k+1,⟨Ej,E⟩,Ee,?_⟩;have b:k<3:=Dv;rw[c4f (hj b)]at h;have e:=f1e (P:=AD p r) (pas_no b h);rw[L2]at e;dsimp only[Xp];rw[e];exact X1d
     all_goals
      first
       |(have b:k<3:=by omega
         have M:=K b h.1;have N:=M;unfold AU at N;have v:=n _ M;first
          |exact Au
          |exact o.1
          |exact v.1
          |exact Ae
          |exact⟨o.2,v.2⟩
          |(have:=@d3g p (AD p r) (3*a+k);refine⟨Dv,?_⟩;exact MU Dw Dv)
          |(rw[c4f (hj b)]at h
            refine⟨k+1,⟨Ej,E⟩,Ee,?_⟩;have e:=f2j (P:=AD p r) (g1r b h);rw[f57 hs m,f57 hs M,L2]at e;dsimp only[Xp];rw[e,Jx,L1];all_goals refine X0 _ ?_;(repeat' first|constructor|intro h)<;>refine Lm ?_
            all_goals first|exact Ar|exact UP (R:=EG) rfl|skip))
       |(have b:k=3:=by omega
         subst b;refine⟨a+1,Gq,by show AJ p.W p.H-(a+1)<AJ p.W p.H-a;omega,?_⟩;have e:3*(a+1)=3*a+3:=Dv;dsimp only[Xp];rw[e];all_goals refine X0 _ ?_;(repeat' first|constructor|intro h)<;>refine Lm ?_
         all_goals first|exact Ar|skip)
       |skip
   all_goals
    have ea:a=AJ p.W p.H:=Dv;subst ea;first|exact A6|skip
theorem pPs28:PS 66 Vp:=f58.1
def SV.roT(own:List Blk):SV->Option SV
 |.tup a=>(a.mapM (SV.roA own)).map .tup
 |s=>s.roA own
theorem d36{w:World}{μ:Mu}{g:Nat}{X A:Nat->Prop}{own:List Blk}(j:Own g X A w μ own){s t:SV}{v:Value}(c:D w (held A μ) μ s v)(a:s.roT own=some t):D w A BQ t v:=by
 have b:∀{s t:SV} {v:Value},D w (held A μ) μ s v->s.roA own=some t->D w A BQ t v:=λh e=>Wx j (λ_ _ h=>h) (A':=A) (λ_ h=>.inl h) h e (λ_ _ h=>h);unfold SV.roT at a;split at a
 .rename_i k;simp only[J7]at a;obtain⟨ts,l,rfl⟩:=a;obtain⟨l1,m⟩:=OI l;cases c with
  |tup n o c=>
   refine .tup n (by rw[o,l1]) (λi t v ht q=> ?_);have d:i<k.length:=Gw;obtain⟨y,f,e⟩:=m i _ (Iy d);rw[ht]at f;cases f;exact b (c i _ v (Iy d) q) e
 .exact b c a
theorem c6z{f:FuncId}{k d:AM}(h:PS f k)(hs:∀a b s,d a=some (b,s)->b->∃q,k a=some (q,s)/\q):PS f d:=⟨h.1,λA w a c b s g i j e l=>by obtain⟨q,m,n⟩:=hs a b s e l;exact h.2 A w a c q s g i j m n⟩
theorem ps_le{f:FuncId}{k g:AM}(h:PS f k)(hs:∀a b s,g a=some (b,s)->b->∃q d,k a=some (q,d)/\q/\d.le2 s):PS f g:=⟨h.1,λA w a c b s i j l e m=>by obtain⟨q,d,n,o,p⟩:=hs a b s e m;refine(h.2 A w a c q d i j l n o).mono ?_;rintro e w' ⟨v,rfl,r,t⟩;exact⟨v,rfl,QI r p,t⟩⟩
def HK.view(h:HK):AM:=λa=>(h a []).bind λr=>(r.res.roT r.own).map λs=>(r.pre,s)
theorem f1u{f:FuncId}{h:HK}(H:HS f h):PS f h.view:=by
 refine⟨H.1,λA w d j pre s m n o a y=> ?_⟩;simp only[HK.view,J8,Ic]at a;obtain⟨r,z,t,B,rfl,rfl⟩:=a;have C:∀b,held A BQ b->A b:=λb l=>by
  rcases l with l|⟨k,x,a,_⟩
  .exact l
  .cases a
 have p:Keeps w w A (held A BQ) BQ BQ:=⟨J9 _,λ_ _ _=>rfl,λb _ l=>C b l,λ_ _ h=>h⟩
 have E:Own 0 (λ_=>True) A w BQ []:=by
  refine⟨?_,?_,?_,m⟩
  .intro k x a;cases a
  .intro k k' x x' b a;cases a
  .intro k x b a;cases a
 refine(H.2 A w d j [] BQ r m (λg q u=>⟨(n g q u).1,(n g q u).2.keep p⟩) E (λ_ _=>rfl) ⟨o.1,λi s v hs F=>(o.2 i s v hs F).keep p⟩ z y).mono ?_;rintro e w' ⟨v,μ',rfl,G,_,I,_,c⟩;exact⟨v,rfl,d36 G I B,⟨c.os,c.tape,c.output,c.drawn,c.size,λi J _=>c.block i J (λ⟨k,x,a,_⟩=>by cases a)⟩⟩
theorem af_lt(x y:Stk):af28 (x.c.x,x.c.y,x.c.q) (y.c.x,y.c.y,y.c.q)=1↔AZ y x=true:=by
 rw[c5t,Jb];have:BC (BO y.c) (BO x.c)<0↔y.c.y<x.c.y\/x.c.y=y.c.y/\(y.c.x<x.c.x\/x.c.x=y.c.x/\y.c.q<x.c.q):=by
  simp only[BO,BC,CE];repeat' split
  all_goals omega
 rw[this];unfold af28;dsimp only;split<;>simp_all
def f2i:HK:=λa own=>match a,own with
 | [x],[]=>(KJ x).map λq=>⟨q.1,.osl 0,[.row CM 4 q.2.length (AA.row (NU q.2)) none],[]⟩
 |_,_=>none
def FHSo28:FamH:=⟨List Stk,λL=>[DJ L],λ_=>[],λL=>FN L,λ_=>.osl 0,λL=>[.row CM 4 L.length (AA.row (NU L)) none],[]⟩
def soSt(L M:List Stk)(a:List Entry):List Entry×List Blk:=(a++[⟨3,none,.osl 0⟩],[.row CM 4 L.length (AA.row M) none])
def ISo28(L:List Stk):Nat->Option Inv
 |3=>some {β:=Nat×List Stk,ok:=λ(i,M)=>1<=i/\i<=L.length+1/\Sub M L/\IH AA.d AZ 0 (L.length-i) i M=NU L,st:=λ(i,M)=>⟨(soSt L M [⟨4,none,.int .i64 i⟩]).1,(soSt L M []).2⟩,μ:=λ(i,_)=>L.length-i,sub:=λ(i,_)=>some fun
  |6=>some {β:=Nat×List Stk,ok:=λ(j,M)=>j<=i/\i<L.length/\Sub M L/\IH AA.d AZ 0 (L.length-(i+1)) (i+1) (GE AA.d AZ 0 j M)=NU L,st:=λ(j,M)=>⟨(soSt L M [⟨5,none,.int .i64 j⟩,⟨4,none,.int .i64 i⟩]).1,(soSt L M []).2⟩,μ:=λ(j,_)=>j}
  |_=>none}
 |_=>none
theorem pHSo28:HS 68 f2i:=by
 refine HG {l:=[(95,f0c)]} ⟨by simpa using pAf28,Dx,Dx⟩ FHSo28 ISo28 f2i ?_ ?_ ?_ Tryz.func68 Dw Dw Dw ?_
 .intro args own r h b;unfold f2i at h;split at h
  .simp only[J7]at h;obtain⟨⟨q,L⟩,hx,rfl⟩:=h;obtain⟨v,w⟩:=Oc hx b;exact⟨L,⟨v,J5⟩,rfl,J5,w,rfl,rfl,rfl⟩
  .cases h
 .exact C0
 .exact Cd
 .intro(L:List Stk) μ b;replace b:FN L:=b;have hL:=b.1;refine X0a _ ?_;(repeat' first|constructor|intro h)<;>refine Lm ?_
  all_goals(try simp only[]at*)
  all_goals(try first
   |exact Aw)
  all_goals(try(refine⟨Dv,?_⟩;exact MU Dw Dv))
  refine⟨(1,L),⟨J9 _,by show 1<=L.length+1;omega,Sub.refl L,rfl⟩,?_,?_⟩
  .exact X1h
  .rintro⟨i,M⟩ c;replace c:1<=i/\i<=L.length+1/\Sub M L/\IH AA.d AZ 0 (L.length-i) i M=NU L:=c;obtain⟨i1,i2,m,i4⟩:=c;refine X0a _ ?_;(repeat' first|constructor|intro h)<;>refine Lm ?_
   all_goals(try simp only[Ia]at*)
   all_goals(try first
    |exact Aw)
   .have x:i<L.length:=Dv;refine⟨(i,M),⟨J9 _,x,m,?_⟩,?_,?_⟩
    .exact Dt
    .exact X0g
    .rintro⟨j,K⟩ f;replace f:j<=i/\i<L.length/\Sub K L/\IH AA.d AZ 0 (L.length-(i+1)) (i+1) (GE AA.d AZ 0 j K)=NU L:=f;obtain⟨j1,y,g,n⟩:=f;have hK:=g.1;have o:((j:Int)-1).toNat=j-1:=Dv;have s:=af_lt (K.getD (j-1) AA.d) (K.getD j AA.d);by_cases k:0<j/\AZ (K.getD j AA.d) (K.getD (j-1) AA.d)=true
     .obtain⟨z,t⟩:=k;have A:=s.2 t;refine X0a _ ?_;(repeat' first|constructor|intro h)<;>refine Lm ?_
      all_goals(try simp only[Ia,If,o]at*)
      all_goals(try first
       |omega
       |exact By
       |(exfalso;rcases h with h|h;omega;exact h A)
       |exact Ag
       |(show j<L.length;omega)
       |(show j-1<L.length;omega))
      have hs:=RI (d:=AA.d) (l:=K) (i:=j-1) (j:=j) Dv Dv;have u:EZ AA.d K (j-1) j=EZ AA.d K j (j-1):=by unfold EZ;exact List.set_comm _ _ Dv
      all_goals
       refine⟨(j-1,EZ AA.d K (j-1) j),⟨by show j-1<=i;omega,y,hs.trans g,?_⟩,by show j-1<j;omega,?_⟩
       .rw[<-n,c1q z t,u]
       .refine X0a _ ?_;(repeat' first|constructor|intro h)<;>refine Lm ?_
        all_goals first
         |exact Bf
         |exact Bn
         |(intro q _;left;rw[u];exact d4e Dv Dv)
         |skip
     .refine X0a _ ?_;(repeat' first|constructor|intro h)<;>refine Lm ?_
      all_goals(try simp only[Ia,If,o]at*)
      all_goals(try first
       |omega
       |(exfalso;exact k ⟨Dv,s.1 h.2⟩)
       |exact Ag)
      have e:GE AA.d AZ 0 j K=K:=b7r k;all_goals
       refine⟨(i+1,K),⟨by show 1<=i+1;omega,by show i+1<=L.length+1;omega,g,by rw[<-n,e]⟩,Gr,?_⟩;all_goals exact X1h
   all_goals
    have e:IH AA.d AZ 0 (L.length-i) i M=M:=by rw[show L.length-i=0 from Dv];rfl
    have B:NU L=M:=by rw[<-i4,e]
    rw[B];first|exact m.1.symm|exact A4|rfl|skip
theorem f2r(L:List Stk):(NU L).length=L.length:=(c1m L).length_eq
abbrev Vg:TypeId:=51
theorem d0eq:CP.d=d0:=rfl
theorem ov_cr(b:Bool)(L:List Cr)(i:Nat)(x y:Cr):over (DC b (CP.sv x) (CP.row L i)) 0 (CP.sv y)=CP.sv y:=by cases b<;>rfl
theorem ov_cr0(L:List Cr)(i:Nat)(y:Cr):over (CP.row L i) 0 (CP.sv y)=CP.sv y:=rfl
theorem f3v{L:List Cr}{i j q:Nat}(hi:i<L.length)(c:j<L.length):
 DC (decide (q=j)) (over (DC (decide (j=i)) (over (CP.row L i) 0 (CP.sv (L.getD j CP.d))) (CP.row L j)) 0 (CP.sv (L.getD i CP.d))) (DC (decide (q=i)) (over (CP.row L i) 0 (CP.sv (L.getD j CP.d))) (CP.row L q))=CP.row (EZ CP.d L i j) q:=by
 rw[ov_cr0,ov_cr];have e:CP.row (EZ CP.d L i j) q=CP.sv ((EZ CP.d L i j).getD q CP.d):=rfl;rw[e,b6x hi c];by_cases b:q=j
 .rw[Iz b,Jf b];by_cases a:q=i
  .rw[Jf a];rfl
  .rw[Ji a];rfl
 .rw[J3 b,Ji b];by_cases a:q=i
  .rw[Iz a,Jf a];rfl
  .rw[J3 a,Ji a];rfl
theorem f21{j:Nat}{M:List Cr}(b:0<j)(a:JJ (M.getD j d0) (M.getD (j-1) d0)=true):GE d0 JJ 0 j M=GE d0 JJ 0 (j-1) (EZ d0 M j (j-1)):=by
 obtain⟨k,rfl⟩:∃k,j=k+1:=⟨j-1,Dv⟩
 simp only[Ng]at a⊢;rw[GE,Iz ⟨b,a⟩]
theorem d6i{j:Nat}{M:List Cr}(h:¬(0<j/\JJ (M.getD j d0) (M.getD (j-1) d0)=true)):GE d0 JJ 0 j M=M:=by
 cases j with
 |zero=>rfl
 |succ k=>
  simp only[Ng]at h;rw[GE,J3 h]
theorem d8h(x y:Cr):JJ y x=true↔(y.c<x.c\/(x.c=y.c/\y.e<x.e)):=by
 unfold JJ;rw[K1,Jt,Jb,Jb,Jb];constructor
 .rintro(h|⟨a,b⟩)
  .exact .inl h
  .exact .inr ⟨a.symm,b⟩
 .rintro(h|⟨a,b⟩)
  .exact .inl h
  .exact .inr ⟨a.symm,b⟩
def d9x:HK:=λa own=>match a,own with
 | [.osl 0],[.row T 3 n g _]=>if T=Vg then some ⟨CP.isL n g/\n<=1000000,.osl 0,[.row Vg 3 (CP.lst n g).length (CP.row (NP (CP.lst n g))) none],[]⟩else none
 |_,_=>none
def FOr28:FamH:=⟨List Cr,λ_=>[.osl 0],λl=>[.row Vg 3 l.length (CP.row l) none],λl=>l.length<=1000000,λ_=>.osl 0,λl=>[.row Vg 3 l.length (CP.row (NP l)) none],[]⟩
def IOr28(L:List Cr):Nat->Option Inv
 |2=>some {β:=Nat×List Cr,ok:=λ(i,M)=>1<=i/\i<=L.length+1/\Sub M L/\IH d0 JJ 0 (L.length-i) i M=NP L,st:=λ(i,M)=>⟨[⟨3,none,.int .i64 i⟩,⟨0,none,.osl 0⟩],[.row Vg 3 L.length (CP.row M) none]⟩,μ:=λ(i,_)=>L.length-i,sub:=λ(i,_)=>some fun
  |5=>some {β:=Nat×List Cr,ok:=λ(j,M)=>j<=i/\i<L.length/\Sub M L/\IH d0 JJ 0 (L.length-(i+1)) (i+1) (GE d0 JJ 0 j M)=NP L,st:=λ(j,M)=>⟨[⟨4,none,.int .i64 j⟩,⟨3,none,.int .i64 i⟩,⟨0,none,.osl 0⟩],[.row Vg 3 L.length (CP.row M) none]⟩,μ:=λ(j,_)=>j}
  |_=>none}
 |_=>none
theorem pOr28:HS 69 d9x:=by
 refine HG {} ⟨Dx,Dx,Dx⟩ FOr28 IOr28 d9x ?_ ?_ ?_ Tryz.func69 Dw Dw Dw ?_
 .intro args own r h b;unfold d9x at h;split at h
  .rename_i T n g c;split at h
   .rename_i y;subst y;cases h;exact⟨CP.lst n g,⟨E4,J5⟩,rfl,⟨⟨Eh,(RT.lst_length CP n g).symm,J5,RT.row_isL CP b.1⟩,J5⟩,by simp only[FOr28,RT.lst_length];exact b.2,rfl,rfl,rfl⟩
   .cases h
  .cases h
 .exact C0
 .exact C5
 .intro(L:List Cr) μ b;replace b:L.length<=1000000:=b;refine X0a _ ?_;(repeat' first|constructor|intro h)<;>refine Lm ?_
  all_goals(try(simp only[];omega))
  refine⟨(1,L),⟨J9 _,by show 1<=L.length+1;omega,Sub.refl L,rfl⟩,?_,?_⟩
  .exact X1h
  .rintro⟨i,M⟩ f;replace f:1<=i/\i<=L.length+1/\Sub M L/\IH d0 JJ 0 (L.length-i) i M=NP L:=f;obtain⟨i1,i2,s,i4⟩:=f;refine X0a _ ?_;(repeat' first|constructor|intro h)<;>refine Lm ?_
   all_goals(try simp only[Ia]at*)
   all_goals(try first
    |exact Aw)
   .have z:i<L.length:=Dv;refine⟨(i,M),⟨J9 _,z,s,?_⟩,?_,?_⟩
    .exact Dt
    .exact X0g
    .rintro⟨j,K⟩ k;replace k:j<=i/\i<L.length/\Sub K L/\IH d0 JJ 0 (L.length-(i+1)) (i+1) (GE d0 JJ 0 j K)=NP L:=k;obtain⟨j1,A,m,t⟩:=k;have hK:=m.1;have u:((j:Int)-1).toNat=j-1:=Dv;have v:=d8h (K.getD (j-1) d0) (K.getD j d0);by_cases o:0<j/\JJ (K.getD j d0) (K.getD (j-1) d0)=true
     .obtain⟨B,w⟩:=o;have C:=v.1 w;refine X0a _ ?_;(repeat' first|constructor|intro h)<;>refine Lm ?_
      all_goals(try simp only[Ia,If,Ii,u,d0eq]at*)
      all_goals(try first
       |omega
       |exact By
       |(exfalso;rcases h with h|h;omega;exact h C)
       |exact Ag
       |(show j<L.length;omega)
       |(show j-1<L.length;omega))
      have hs:=RI (d:=d0) (l:=K) (i:=j-1) (j:=j) Dv Dv;have x:EZ d0 K (j-1) j=EZ d0 K j (j-1):=by unfold EZ;exact List.set_comm _ _ Dv
      all_goals
       refine⟨(j-1,EZ d0 K (j-1) j),⟨by show j-1<=i;omega,A,hs.trans m,?_⟩,by show j-1<j;omega,?_⟩
       .rw[<-t,f21 B w,x]
       .refine X0a _ ?_;(repeat' first|constructor|intro h)<;>refine Lm ?_
        all_goals first
         |exact Bf
         |(intro q _;left;exact f3v Dv Dv)
         |(intro q _;left;rw[x];exact f3v Dv Dv)
         |skip
     .refine X0a _ ?_;(repeat' first|constructor|intro h)<;>refine Lm ?_
      all_goals(try simp only[Ia,If,Ii,u,d0eq]at*)
      all_goals(try first
       |omega
       |(exfalso;exact o ⟨Dv,v.2 h.2⟩)
       |exact Ag)
      have e:GE d0 JJ 0 j K=K:=d6i o;all_goals
       refine⟨(i+1,K),⟨by show 1<=i+1;omega,by show i+1<=L.length+1;omega,m,by rw[<-t,e]⟩,Gr,?_⟩;all_goals exact X1h
   all_goals
    have e:IH d0 JJ 0 (L.length-i) i M=M:=by rw[show L.length-i=0 from Dv];rfl
    have E:NP L=M:=by rw[<-i4,e]
    rw[E];first|exact s.1.symm|exact A4|rfl|skip
def rFl28(W H:Int):SV:=.agg (Fo ⟨W,H,[]⟩ DA (CI W H))
def kFl28:AM
 | [.int .i64 W,.int .i64 H]=>some (AV W H=0,rFl28 W H)
 |_=>none
def d9s:HK:=λa own=>match a,own with
 | [.int .i64 W,.int .i64 H],[]=>some ⟨AV W H=0,.agg [.int .i64 W,.int .i64 H,.con (.slice none 0 0),.int .u8 0,.int .i64 0,.int .i64 0,.osl 0],[.row CM 4 (CI W H).length (AA.row (CI W H)) none],[]⟩
 |_,_=>none
def FFl28:FamH:=⟨Int×Int,λ(W,H)=>[.int .i64 W,.int .i64 H],λ_=>[],λ(W,H)=>AV W H=0,λ(W,H)=>.agg [.int .i64 W,.int .i64 H,.con (.slice none 0 0),.int .u8 0,.int .i64 0,.int .i64 0,.osl 0],λ(W,H)=>[.row CM 4 (CI W H).length (AA.row (CI W H)) none],[]⟩
def IFl28:Int×Int->Nat->Option Inv
 |(W,H),3=>some {β:=Nat,ok:=λi=>i<=AJ W H,st:=λi=>⟨[⟨6,none,.int .i64 i⟩,⟨5,none,.own 1 0⟩,⟨4,none,.own 0 0⟩,⟨1,none,.int .i64 H⟩,⟨0,none,.int .i64 W⟩],[.cells 34 [.int .i64 0,.int .i64 0,.con (.slice none 0 0),.int .u8 0,.int .i64 0,.int .i64 0,.con (.slice none 0 0)],.cells 34 [.int .i64 W,.int .i64 H,.con (.slice none 0 0),.int .u8 0,.int .i64 0,.int .i64 0,.osl 2],.row 41 4 ((CI W H).take i).length (AA.row ((CI W H).take i)) none]⟩,μ:=λi=>AJ W H-i,nl:=[.cell 1 6 41 4]}
 |_,_=>none
theorem d61{L:List Stk}{x y q:Int}{l:List Int}{n:Nat}{f:Nat->List SV}{c:Option Nat}{sz:Nat}(a:sz=1)(b:n=l.length)(d:∀j,j<n->f j=AC.row l j){j:Nat}(hj:j<L.length+1):FU (if j<L.length then AA.row L j else(List.map (λx:Nat×List SV=>x.snd) [(0,[.int .i64 x,.int .i64 y,.int .u8 q,.sl sz n f c])].reverse).getD (j-L.length) []) (AA.row (L++[⟨⟨x,y,q⟩,l⟩]) j):=by
 subst a;by_cases e:j<L.length
 .left;rw[Iz e];unfold RT.row;rw[Ix,Ix,Jc e]
 .right;have:j=L.length:=Dv;subst this;rw[J3 e,Ks];unfold RT.row;rw[Ix (l:=L++_),Jm (J9 _),Ks];exact⟨rfl,rfl,rfl,⟨b,Et,Gp,d⟩,J5⟩
theorem f1j{W H:Int}(hs:AV W H=0){i:Nat}(hi:(i:Int)<4*W*H):(CI W H).take (i+1)=(CI W H).take i++[⟨⟨(i:Int)/4%W,(i:Int)/4/W,(i:Int)%4⟩,[(i:Int)]⟩]:=by have hN:=CR hs;rw[JD (d:=AA.d) (by unfold CI;simp;omega)];congr 2;unfold CI;rw[Ix,Jr,Nc Dv];show (⟨AL W H i,[(i:Int)]⟩:Stk)=_;rw[HV hs Dv hi]
theorem f3t:HS 28 d9s:=by
 refine HG {l:=[(43,Qd)],fz:=λd=>Nat.beq d 28,G:={gx:=λ_=>[.sel [2,0]]}} ⟨by simpa using TH,Dx,Dx⟩ FFl28 IFl28 d9s ?_ ?_ ?_ Tryz.func28 Dw Dw Dw ?_
 .intro args own s h a;unfold d9s at h;split at h
  .rename_i W H;cases h;exact⟨(W,H),by simp[FFl28,BM,SV.le2,SV.le1,SV.le0],rfl,J5,a,rfl,rfl,rfl⟩
  .cases h
 .exact Bz
 .exact Cd
 .rintro⟨W,H⟩ μ a;replace a:AV W H=0:=a;have hN:=CR a;have hw:=GW a;refine X0a _ ?_;(repeat' first|constructor|intro h)<;>refine Lm ?_
  all_goals(try first
   |exact Ap)
  have S2:(CI W H).length=AJ W H:=by unfold CI;simp
  have hWH:4*W*H=4*(W*H):=Li 4 W H;refine⟨(0:Nat),Je _,?_,?_⟩
  .refine X0a _ ?_;(repeat' first|constructor|intro h)<;>refine Lm ?_
   all_goals first|exact A6|exact Ah|skip
  .intro i c;replace c:i<=AJ W H:=c;have bi:((CI W H).take i).length<=AJ W H:=Ex;refine X0a _ ?_;(repeat' first|constructor|intro h)<;>refine Lm ?_
   all_goals(try simp only[Ia]at*)
   all_goals(try first
    |omega
    |exact Au
    |exact A7
    |exact A9)
   .refine⟨i+1,by show i+1<=AJ W H;omega,by show AJ W H-(i+1)<AJ W H-i;omega,?_⟩;have e:=f1j a h;rw[e,Jx,L1];refine X0a _ ?_;(repeat' first|constructor|intro h)<;>refine Lm ?_
    all_goals first
     |exact Aq
     |(intro q f;refine d61 (l:=[(i:Int)]) Dw rfl (λj hj=> ?_) f;have e:j=0:=Nat.lt_one_iff.1 hj;rw[e];rfl)
   all_goals
    have e:(CI W H).take i=CI W H:=L6 Dv;rw[e];first|exact Aq|skip
theorem pFl28:PS 28 kFl28:=ps_le (f1u f3t) λargs pre s h a=>by
 unfold kFl28 at h;split at h
 .rename_i W H;cases h;exact⟨_,_,rfl,a,by simp[rFl28,Fo,DJ,DA,SV.le2,SV.le1,BH,SV.le0,GL,FU]⟩
 .cases h
abbrev BF(p:Pt)(r:Mv):List Pas:=HB p (AD p r) (3*AJ p.W p.H)
def rLn28(p:Pt)(r:Mv):SV:=.sl 2 (FA (BF p r)).length (HW.row (FA (BF p r))) none
theorem ln_len{O:List (Int×Int)}{k:Nat}{x:Int×Int}(hk:k<=O.length):0+((k:Int)-0).toNat+1+((O.length:Int)-k).toNat=(O.take k++([x]++O.drop k)).length:=by simp only[Jx,Nb,List.length_drop,L1];omega
theorem ln_ins{O:List (Int×Int)}{k:Nat}{x:Int×Int}{K C:Int}(hx:x=(K,C))(hk:k<=O.length){j:Nat}(c:j<0+((k:Int)-0).toNat+1+((O.length:Int)-k).toNat):FU (if j<0+((k:Int)-0).toNat+1 then if j<0+((k:Int)-0).toNat then if j<0 then []else HW.row O (Int.toNat 0+(j-0))else(List.map (λx:Nat×List SV=>x.snd) [(0,[SV.int .u8 K,SV.int .i64 C])].reverse).getD (j-(0+((k:Int)-0).toNat)) []else HW.row O (k+(j-(0+((k:Int)-0).toNat+1)))) (HW.row (O.take k++([x]++O.drop k)) j):=by
 left;have e:((k:Int)-0).toNat=k:=Dv;rw[e,Kv]at c⊢;have a:(O.take k).length=k:=Ex;subst hx;unfold RT.row;by_cases b:j<k
 .rw[Iz Dv,Iz b,J3 (Jq _),show Int.toNat 0+(j-0)=j from Dv];rw[Ix,Ix,Jc Dv,List.getElem?_take_of_lt b]
 .by_cases d:j=k
  .subst d;rw[Iz Dv,J3 (M7 _),Ks];rw[Ix (l:=O.take j++_),Jm Dv,a,Ks];rfl
  .rw[J3 Dv];rw[Ix,Ix,Jm Dv,a,Jm (by rw[L1];omega),List.getElem?_drop,L1];congr 3
theorem st_at{c:Cl}:∀(L:List Stk) (i:Nat),i<L.length->(∀j,j<i->(L.getD j AA.d).c≠c)->(L.getD i AA.d).c=c->AF L c=(L.getD i AA.d).l
 | [],i,h,_,_=>E6
 |s::L,0,_,_,h=>by rw[LV];have a:s.c=c:=h;rw[Iz a];rfl
 |s::L,i+1,h,b,e=>by rw[LV];have a:s.c≠c:=b 0 Dv;rw[J3 a,st_at L i E2 (λj q=>b (j+1) Dv) e];rfl
theorem st_no{c:Cl}{L:List Stk}(h:∀j,j<L.length->(L.getD j AA.d).c≠c):AF L c=[]:=by refine b8v λb=> ?_;obtain⟨s,hs,e⟩:=Jp.1 b;obtain⟨j,a,f⟩:=Jw.1 hs;refine h j a ?_;rw[Ix,Iy a,f];exact e
def d8y:AM
 | [x,.agg [.int .i64 X,.int .i64 Y,.int .u8 Q]]=>(KJ x).map λq=>(q.1,.sl 1 (AF q.2 ⟨X,Y,Q⟩).length (AC.row (AF q.2 ⟨X,Y,Q⟩)) none)
 |_=>none
def FLa25:Fam:=⟨List Stk×Int×Int×Int,λ(L,X,Y,Q)=>[DJ L,.agg [.int .i64 X,.int .i64 Y,.int .u8 Q]],λ(L,_)=>FN L,λ(L,X,Y,Q)=>.sl 1 (AF L ⟨X,Y,Q⟩).length (AC.row (AF L ⟨X,Y,Q⟩)) none⟩
def ILa25:List Stk×Int×Int×Int->Nat->Option Inv
 |(L,X,Y,Q),2=>some {β:=Nat,ok:=λi=>i<=L.length/\∀j,j<i->(L.getD j AA.d).c≠⟨X,Y,Q⟩,st:=λi=>⟨[⟨5,none,.int .i64 i⟩,⟨3,none,.own 0 0⟩,⟨0,none,DJ L⟩],[.cells 39 [.int .i64 X,.int .i64 Y,.int .u8 Q]]⟩,μ:=λi=>L.length-i}
 |_,_=>none
theorem pLa25:PS 19 d8y:=by
 refine con [] Dx FLa25 ILa25 d8y ?_ ?_ Tryz.func19 Dw Dw Dw ?_
 .intro args pre s h f;unfold d8y at h;split at h
  .rename_i x X Y Q;simp only[Ic]at h;obtain⟨⟨q,L⟩,hx,rfl,rfl⟩:=h;obtain⟨v,w⟩:=Oc hx f;exact⟨(L,X,Y,Q),⟨v,Eb,J5⟩,w,rfl⟩
  .cases h
 .exact Bz
 .rintro⟨L,X,Y,Q⟩ f;replace f:FN L:=f;have hL:=f.1;refine X0a _ ?_;(repeat' first|constructor|intro h)<;>refine Lm ?_
  all_goals(try(simp only[];omega))
  refine⟨(0:Nat),⟨Je _,λj t=>absurd t (Jq _)⟩,?_,?_⟩
  .exact X0g
  .intro i o;replace o:i<=L.length/\∀j,j<i->(L.getD j AA.d).c≠⟨X,Y,Q⟩:=o;obtain⟨i1,m⟩:=o;by_cases n:(L.getD i AA.d).c=⟨X,Y,Q⟩
   .have u:=n;generalize r:(L.getD i AA.d).c=g at u;subst u;have e1:(L.getD i AA.d).c.x=X:=by rw[r]
    have e2:(L.getD i AA.d).c.y=Y:=by rw[r]
    have e3:(L.getD i AA.d).c.q=Q:=by rw[r]
    refine X0a _ ?_;(repeat' first|constructor|intro h)<;>refine Lm ?_
    all_goals(try simp only[Ia,If,Mm]at*)
    all_goals(try first
     |exact Aw)
    all_goals first
     |(have k:i<L.length:=by omega
       rw[st_at L i k m n];first|done|exact B5)
     |(have k:i=L.length:=by omega
       rw[st_no (by rw[<-k];exact m)];first|done|rfl|trivial)
     |skip
   .have b9:¬((L.getD i AA.d).c.x=X/\(L.getD i AA.d).c.y=Y/\(L.getD i AA.d).c.q=Q):=λq=>n (by
     generalize (L.getD i AA.d).c=g at*;obtain⟨a,b,c⟩:=g;obtain⟨rfl,rfl,rfl⟩:=q;rfl)
    refine X0a _ ?_;(repeat' first|constructor|intro h)<;>refine Lm ?_
    all_goals(try simp only[Ia,If,Mm]at*)
    all_goals(try first
     |exact Aw)
    all_goals first
     |(have k:i=L.length:=by omega
       rw[st_no (by rw[<-k];exact m)];first|done|rfl|trivial)
     |(refine⟨i+1,⟨Ea,λj t=> ?_⟩,E7,?_⟩
       .by_cases e:j=i
        .subst e;exact n
        .exact m j Dv
       .refine X0a _ ?_;(repeat' first|constructor|intro h)<;>refine Lm ?_
        all_goals first|exact B5|skip)
     |skip
section
variable{p:Pt}{P:Int->Mv}{c d:Cl}{l:List Int}
def Nm(p:Pt)(P:Int->Mv)(d:Cl)(i:Int)(k:Nat):Option Wt:=if BA p P i (kE (i%4) k)=d then some (i,BK p.W p.H i k,IX p.W p.H p.l (3*i.toNat+k))else none
def ME(p:Pt)(P:Int->Mv)(d:Cl)(l:List Int)(n:Nat):List Wt:=(List.range n).filterMap λj=>Nm p P d (l.getD (j/3) 0) (j%3)
theorem d6z{a k:Nat}(hk:k<3)(h:Nm p P d (l.getD a 0) k=none):ME p P d l (3*a+k+1)=ME p P d l (3*a+k):=by
 have b:Nm p P d (l.getD ((3*a+k)/3) 0) ((3*a+k)%3)=none:=by rw[show (3*a+k)/3=a from Dv,show (3*a+k)%3=k from Dv];exact h
 unfold ME;rw[Mj,List.filterMap_append];have e:List.filterMap (λj=>Nm p P d (l.getD (j/3) 0) (j%3)) [3*a+k]=[]:=by rw[List.filterMap_cons_none (f:=λj=>Nm p P d (l.getD (j/3) 0) (j%3)) b];rfl
 rw[e,List.append_nil]
theorem d47{a k:Nat}{x:Wt}(hk:k<3)(h:Nm p P d (l.getD a 0) k=some x):ME p P d l (3*a+k+1)=ME p P d l (3*a+k)++[x]:=by
 have b:Nm p P d (l.getD ((3*a+k)/3) 0) ((3*a+k)%3)=some x:=by rw[show (3*a+k)/3=a from Dv,show (3*a+k)%3=k from Dv];exact h
 unfold ME;rw[Mj,List.filterMap_append];have e:List.filterMap (λj=>Nm p P d (l.getD (j/3) 0) (j%3)) [3*a+k]=[x]:=by rw[List.filterMap_cons_some (f:=λj=>Nm p P d (l.getD (j/3) 0) (j%3)) b];rfl
 rw[e]
theorem f44(n:Nat):(ME p P d l n).length<=n:=by unfold ME;refine Kq (List.length_filterMap_le _ _) ?_;simp
theorem ot_tri(hs:AV p.W p.H=0){i:Int}(hi:AU p i)(k:Int):BA p P i (kE (i%4) k)=⟨(sq (P i).t (DD (i/4%p.W) (i/4/p.W) (i%4) k).x (DD (i/4%p.W) (i/4/p.W) (i%4) k).y).1+(P i).x,(sq (P i).t (DD (i/4%p.W) (i/4/p.W) (i%4) k).x (DD (i/4%p.W) (i/4/p.W) (i%4) k).y).2+(P i).y,tq (P i).t (DD (i/4%p.W) (i/4/p.W) (i%4) k).q⟩:=by unfold BA BU;rw[HV hs hi.1 hi.2];rfl
end
structure MtH (p:Pt) (r:Mv) (L:List Stk):Prop where
 pr:prOK p r
 sn:FK L
 bo:CH p r=0
 id:∀s∈L,∀v∈s.l,AU p v
 len:∀s∈L,s.l.length<=1024
def Uj(p:Pt)(r:Mv):SV:=.sl 3 (BL p r).length (AH.row (BL p r)) none
def Qc(p:Pt):SV:=.sl 1 (IB p).length (PE.row (IB p)) none
def Rv(c:Cl):List SV:=[.int .i64 c.x,.int .i64 c.y,.int .u8 c.q]
def DT(p:Pt)(r:Mv)(L:List Stk)(c d:Cl):List Wt:=ME p (AD p r) d (AF L c) (3*(AF L c).length)
def d80(p:Pt)(r:Mv)(L:List Stk):AM
 | [x,t,y,z,.agg [.int .i64 a,.int .i64 b,.int .u8 c],.agg [.int .i64 d,.int .i64 e,.int .u8 f]]=>some (x=Eo p/\t=Qc p/\y=Uj p r/\z=DJ L,.sl 3 (DT p r L ⟨a,b,c⟩ ⟨d,e,f⟩).length (CL.row (DT p r L ⟨a,b,c⟩ ⟨d,e,f⟩)) none)
 |_=>none
def FMt25(p:Pt)(r:Mv)(L:List Stk):Fam:=⟨Cl×Cl,λ(c,d)=>[Eo p,Qc p,Uj p r,DJ L,.agg (Rv c),.agg (Rv d)],λ_=>True,λ(c,d)=>.sl 3 (DT p r L c d).length (CL.row (DT p r L c d)) none⟩
def mtEn(p:Pt)(r:Mv)(l:List Int)(a:List Entry):List Entry:=a++[⟨14,none,.sl 1 l.length (AC.row l) none⟩,⟨13,none,.osl 3⟩,⟨11,none,.own 2 0⟩,⟨6,none,.own 0 0⟩,⟨2,none,Uj p r⟩,⟨1,none,Qc p⟩]
def mtOw(p:Pt)(r:Mv)(l:List Int)(c d:Cl)(n:Nat):List Blk:=[.cells 29 [.int .i64 p.W,.int .i64 p.H,.sl 3 p.l.length (DZ p.l) none],.cells 39 (Rv c),.cells 39 (Rv d),.row 133 3 (ME p (AD p r) d l n).length (CL.row (ME p (AD p r) d l n)) none]
def IMt25(p:Pt)(r:Mv)(L:List Stk):Cl×Cl->Nat->Option Inv
 |(c,d),4=>some {β:=Nat,ok:=λa=>a<=(AF L c).length,st:=λa=>⟨mtEn p r (AF L c) [⟨15,none,.int .i64 a⟩],mtOw p r (AF L c) c d (3*a)⟩,μ:=λa=>(AF L c).length-a,nl:=[.slot 13 133 3],sub:=λa=>some fun
  |8=>some {β:=Nat,ok:=λk=>k<=3/\a<(AF L c).length,st:=λk=>⟨mtEn p r (AF L c) [⟨17,none,.int .i64 k⟩,⟨16,none,.int .i64 ((AF L c).getD a 0)⟩,⟨15,none,.int .i64 a⟩],mtOw p r (AF L c) c d (3*a+k)⟩,μ:=λk=>3-k}
  |_=>none}
 |_,_=>none
theorem pMt25{p:Pt}{r:Mv}{L:List Stk}(X:MtH p r L):PS 60 (d80 p r L):=by
 refine con [(19,d8y),(41,SN),(43,Qd),(59,Up),(18,Ua)] (by simpa using⟨pLa25,Yh,TH,f92,pImg⟩) (FMt25 p r L) (IMt25 p r L) (d80 p r L) ?_ ?_ Tryz.func60 Dw Dw Dw ?_
 .intro args pre s h Q;unfold d80 at h;split at h
  .rename_i x t y z a b c d e f;cases h;obtain⟨rfl,rfl,rfl,rfl⟩:=Q;refine⟨(⟨a,b,c⟩,⟨d,e,f⟩),?_,J5,rfl⟩;simp[FMt25,Eo,Qc,Uj,DJ,Rv,BM,SV.le2,SV.le1,BH,SV.le0,GL,FU]
  .cases h
 .intro i;show 6<=_;decide
 .rintro⟨c,d⟩ _;obtain⟨S,J,A,B,T⟩:=X;obtain⟨⟨c9,c8⟩,K⟩:=S;obtain⟨U,O9,_,_⟩:=Qi A;obtain⟨G,G0,V⟩:=c2h K.1 A;have Y:=PJ K.1 A;have fg:=Y.pl;have hs:=(FO U).1;have hN:=CR hs;have U1:=YX p;have hw:=GW hs;have Z:=NT L J.1;have bg:∀a,a<(AF L c).length->AU p ((AF L c).getD a 0):=λa o=>by
   have hm:=BW (d:=(0:Int)) o;have hA:∀v∈AF L c,AU p v:=by
    unfold AF;cases hf:L.find? (λs=>decide (s.c=c))with
    |none=>exact λv C=>nomatch C
    |some t=>exact λv C=>B t (M4 hf) v C
   exact hA _ hm
  have Yx:(AF L c).length<=1024:=by
   unfold AF;cases hf:L.find? (λs=>decide (s.c=c))with
   |none=>simp
   |some t=>exact T t (M4 hf)
  refine AB _ ?_;(repeat' first|constructor|refine Iu λg=> ?_|intro h)<;>refine Lm ?_
  all_goals(try simp only[RT.lst_row]at*)
  all_goals(try first
   |exact Z
   |exact J.1)
  refine⟨(0:Nat),Je _,?_,?_⟩
  .refine AB _ ?_;(repeat' first|constructor|refine Iu λg=> ?_|intro h)<;>refine Lm ?_
   all_goals first|exact B3|exact Ah|skip
  .intro a o;replace o:a<=(AF L c).length:=o;refine AB _ ?_;(repeat' first|constructor|refine Iu λg=> ?_|intro h)<;>refine Lm ?_
   all_goals(try simp only[Ia]at*)
   all_goals(try first|exact Ap|exact Ae)
   .have w:a<(AF L c).length:=Dv;refine⟨(0:Nat),⟨by show 0<=3;omega,w⟩,?_,?_⟩
    .refine AB _ ?_;(repeat' first|constructor|refine Iu λg=> ?_|intro h)<;>refine Lm ?_
     all_goals first|exact B3|skip
    .intro k E;replace E:k<=3/\a<(AF L c).length:=E;obtain⟨k1,_⟩:=E;have m:=bg a w;have g:(AF L c).getD a AC.d=(AF L c).getD a 0:=rfl;have F:=λk:Int=>ot_tri (P:=AD p r) hs m k;have Zf:=@d6z p (AD p r) d (AF L c) a k;have Z0:=λx=>@d47 p (AD p r) d (AF L c) a k x;have hml:=@f44 p (AD p r) d (AF L c) (3*a+k);have M:Nm p (AD p r) d ((AF L c).getD a 0) k=if BA p (AD p r) ((AF L c).getD a 0) (kE ((AF L c).getD a 0%4) k)=d then some ((AF L c).getD a 0,BK p.W p.H ((AF L c).getD a 0) k,IX p.W p.H p.l (3*((AF L c).getD a 0).toNat+k))else none:=rfl;generalize (AF L c).getD a 0=u at*;have N:=V u m;have sj:=Oy N;have S6:=Nz N;unfold FR at sj;have S8:(BL p r).getD u.toNat AH.d=AD p r u:=rfl;have I:(0<=u/4%p.W/\u/4%p.W<=300)/\(0<=u/4/p.W/\u/4/p.W<=300)/\0<=u%4/\u%4<=3:=by
      have:=OW hs m.1 m.2;rw[HV hs m.1 m.2]at this;exact this
     have hby:(-301<=(DD (u/4%p.W) (u/4/p.W) (u%4) k).x/\(DD (u/4%p.W) (u/4/p.W) (u%4) k).x<=301)/\(-301<=(DD (u/4%p.W) (u/4/p.W) (u%4) k).y/\(DD (u/4%p.W) (u/4/p.W) (u%4) k).y<=301)/\0<=(DD (u/4%p.W) (u/4/p.W) (u%4) k).q/\(DD (u/4%p.W) (u/4/p.W) (u%4) k).q<=3:=by have h1:=@MM ⟨u/4%p.W,u/4/p.W,u%4⟩ (kE (u%4) k) (by exact I.2.2) LF;dsimp only at h1;unfold DD;omega
     have O:BA p (AD p r) u (kE (u%4) k)=d↔(sq (AD p r u).t (DD (u/4%p.W) (u/4/p.W) (u%4) k).x (DD (u/4%p.W) (u/4/p.W) (u%4) k).y).1+(AD p r u).x=d.x/\(sq (AD p r u).t (DD (u/4%p.W) (u/4/p.W) (u%4) k).x (DD (u/4%p.W) (u/4/p.W) (u%4) k).y).2+(AD p r u).y=d.y/\tq (AD p r u).t (DD (u/4%p.W) (u/4/p.W) (u%4) k).q=d.q:=by
      rw[F];constructor
      .intro e;rw[<-e];exact Ce
      .rintro⟨e1,e2,e3⟩;exact Cl.ext' e1 e2 e3
     unfold AU at m;have ej:(3*u+(k:Int)).toNat=3*u.toNat+k:=Dv;have e0:((u.toNat:Nat):Int)=u:=Dv;refine AB _ ?_;(repeat' first|constructor|refine Iu λg=> ?_|intro h)<;>refine Lm ?_
     all_goals(try simp only[Ia,ej,g,S8,If,Ib]at*)
     all_goals(try first
      |exact Be
      |exact Au
      |exact Bx
      |exact⟨⟨Dv,Dv⟩,⟨⟨Dv,Dv⟩,Dv,Dv⟩,⟨Dv,Dv⟩,⟨Dv,Dv⟩,Dv,Dv⟩
      |exact⟨hs,m.1,m.2⟩
      |exact A7
      |exact A9)
     all_goals first
      |(have n:k<3:=by omega
        have hq:¬BA p (AD p r) u (kE (u%4) k)=d:=λq=>by
         have q:=O.1 q;rcases h with h|h|h|h
         .exact h q.1
         .exact h q.2.1
         .exact h q.2.2
         .cases h
        have e:=Zf n (by rw[M,J3 hq]);refine⟨k+1,⟨Ej,w⟩,Ee,?_⟩;rw[L2]at e;dsimp only[mtOw];rw[e];all_goals refine AB _ ?_;(repeat' first|constructor|refine Iu λg=> ?_|intro h)<;>refine Lm ?_
        all_goals first|exact B3|omega|skip)
      |(have n:k<3:=by omega
        have e:=Z0 _ n (by rw[M,Iz (O.2 ⟨h.1,h.2.1,h.2.2.1⟩)]);refine⟨k+1,⟨Ej,w⟩,Ee,?_⟩;rw[L2]at e;dsimp only[mtOw];rw[e,Jx,L1];all_goals refine AB _ ?_;(repeat' first|constructor|refine Iu λg=> ?_|intro h)<;>refine Lm ?_
        all_goals first|exact B3|omega|exact UP (R:=CL) (by rw[c4f Dv];rfl)|skip)
      |(have n:k=3:=by omega
        subst n;refine⟨a+1,Gq,by show _-(a+1)<_-a;omega,?_⟩;have e:3*(a+1)=3*a+3:=Dv;dsimp only[mtOw];rw[e];all_goals refine AB _ ?_;(repeat' first|constructor|refine Iu λg=> ?_|intro h)<;>refine Lm ?_
        all_goals first|exact B3|omega|skip)
      |skip
   all_goals
    have ea:a=(AF L c).length:=Dv;subst ea;first|exact A6|exact A4|skip
def SH(hd:Nat->Value)(S:List Stk)(q:Nat):List SV:=[.int .i64 (S.getD q AA.d).c.x,.int .i64 (S.getD q AA.d).c.y,.int .u8 (S.getD q AA.d).c.q,.con (hd q)]
def HD(hd:Nat->Value)(S A M:List Stk)(q:Nat):List SV:=[.int .i64 (M.getD q AA.d).c.x,.int .i64 (M.getD q AA.d).c.y,.int .u8 (M.getD q AA.d).c.q,if GQ S A q=true then .con (hd q)else .sl 1 (M.getD q AA.d).l.length (AC.row (M.getD q AA.d).l) none]
section
variable{over:Bool}{S A:List Stk}{hd:Nat->Value}
theorem f4t{q:Nat}:(if q<S.length/\GQ S A q=true then(HD hd S A (Al over S A) q).set 3 (.sl 1 (S.getD q AA.d).l.length (AC.row (S.getD q AA.d).l) none)else HD hd S A (Al over S A) q)=AA.row (Al over S A) q:=by
 by_cases h:q<S.length/\GQ S A q=true
 .rw[Iz h];have e:=(@Xc over A S q h.1).2 (Sn.1 h.2).2;unfold HD RT.row;rw[e];rfl
 .rw[J3 h];have a:¬GQ S A q=true:=λk=>h ⟨(Sn.1 k).1,k⟩;unfold HD RT.row;rw[J3 a];rfl
theorem d1v:(AA.lst (Al over S A).length λq=>if q<S.length/\GQ S A q=true then(HD hd S A (Al over S A) q).set 3 (.sl 1 (S.getD q AA.d).l.length (AC.row (S.getD q AA.d).l) none)else HD hd S A (Al over S A) q)=Al over S A:=by have:(λq=>if q<S.length/\GQ S A q=true then(HD hd S A (Al over S A) q).set 3 (.sl 1 (S.getD q AA.d).l.length (AC.row (S.getD q AA.d).l) none)else HD hd S A (Al over S A) q)=AA.row (Al over S A):=Mw λq=>f4t;rw[this,RT.lst_row]
theorem sel_is:AA.isL (Al over S A).length λq=>if q<S.length/\GQ S A q=true then(HD hd S A (Al over S A) q).set 3 (.sl 1 (S.getD q AA.d).l.length (AC.row (S.getD q AA.d).l) none)else HD hd S A (Al over S A) q:=by have:(λq=>if q<S.length/\GQ S A q=true then(HD hd S A (Al over S A) q).set 3 (.sl 1 (S.getD q AA.d).l.length (AC.row (S.getD q AA.d).l) none)else HD hd S A (Al over S A) q)=AA.row (Al over S A):=Mw λq=>f4t;rw[this];exact RT.isL_row AA _
theorem f5z(a:DS S)(nA:DS A){n:Nat}(hS:∀s∈S,s.l.length<=n)(d:∀s∈A,s.l.length<=n):∀s∈Al over S A,s.l.length<=2*n:=by
 intro s hs;have e:=Pu (c5h (over:=over) A S a) hs;rw[c4w A S s.c nA]at e;have len:∀(L:List Stk),(∀t∈L,t.l.length<=n)->DS L->(AF L s.c).length<=n:=λL f g=>by
  rcases RJ L s.c with⟨t,b,e⟩|e
  .rw[<-e,Pu g b];exact f t b
  .rw[e];simp
 have h1:=len S hS a;have h2:=len A d nA;rw[<-e];unfold NW;split<;>rw[Jx]<;>omega
end
end Go.Proofs.YtaihldljnlgnoaaGreatDoor.V
