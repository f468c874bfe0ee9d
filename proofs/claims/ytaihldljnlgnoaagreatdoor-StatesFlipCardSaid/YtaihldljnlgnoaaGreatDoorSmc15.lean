/-
  Parts of the proof: A33 A34 A35 A43 D33 Y19 Y20 A47 A44. Conditions: none.
-/
import Derived.Test.YtaihldljnlgnoaaGreatDoorSmc7
import Derived.Test.YtaihldljnlgnoaaGreatDoorSmc8
import Derived.Test.YtaihldljnlgnoaaGreatDoorSmc9
import Derived.Test.YtaihldljnlgnoaaGreatDoorSmc10
import Derived.Test.YtaihldljnlgnoaaGreatDoorSmc11
import Derived.Test.YtaihldljnlgnoaaGreatDoorSmc13
import Derived.Test.YtaihldljnlgnoaaGreatDoorSmc14
set_option maxRecDepth 100000
set_option maxHeartbeats 40000000
namespace Go.Proofs.YtaihldljnlgnoaaGreatDoor.V
open Go
theorem pSym:∀F,HS 198 (SW F)
 |0=>by
  refine⟨⟨_,Tryz.func198,E5,E5⟩,λA w args vals own μ r _ _ _ _ _ h a=> ?_⟩;unfold SW at h;split at h
  .split at h
   .cases h;obtain⟨p1,p2,p3,p4,p5,p6,p7,p8⟩:=a;exfalso;omega
   .cases h
  .cases h
 |F+1=>pSym1 F (pSym F)
def f9c:HK:=λa own=>match own with
 |.row T b n g c::o=>SW n a (.row T b n g c::o)
 |_=>none
theorem pSymN:HS 198 f9c:=by
 refine⟨(pSym 0).1,λA w a b own c r d e f g i h j=> ?_⟩;unfold f9c at h;split at h
 .exact(pSym _).2 A w a b _ c r d e f g i h j
 .cases h
section
variable{α:Type}{d:α}{lt:α->α->Bool}
theorem f67{n f a:Nat}{L:List α}(h:a+20<=n):Kl d lt n (f+1) a L=Kl d lt n f (a+20) (FP d lt a (a+20) L):=by rw[Kl,Jf h]
theorem d1k{n f a:Nat}{L:List α}(h:¬a+20<=n):Kl d lt n f a L=FP d lt a n L:=by
 cases f with
 |zero=>rfl
 |succ f=>rw[Kl,Jg h]
theorem f5y{n b f a:Nat}{L:List α}(h:a+2*b<=n):IM d lt n b (f+1) a L=IM d lt n b f (a+2*b) (DI d lt n a (a+b) (a+2*b) L):=by rw[IM,Jf h]
theorem d3n{n b f a:Nat}{L:List α}(h:¬a+2*b<=n)(k:a+b<n):IM d lt n b f a L=DI d lt n a (a+b) n L:=by
 cases f with
 |zero=>rw[IM,Jf k]
 |succ f=>rw[IM,Jg h,Jf k]
theorem d55{n b f a:Nat}{L:List α}(h:¬a+2*b<=n)(k:¬a+b<n):IM d lt n b f a L=L:=by
 cases f with
 |zero=>rw[IM,Jg k]
 |succ f=>rw[IM,Jg h,Jg k]
theorem f77{n f a:Nat}{L:List α}(h:a<n):LY d lt n (f+1) a L=LY d lt n f (2*a) (IM d lt n a n 0 L):=by rw[LY,Jf h]
theorem d1s{n f a:Nat}{L:List α}(h:¬a<n):LY d lt n f a L=L:=by
 cases f with
 |zero=>rfl
 |succ f=>rw[LY,Jg h]
end
def hStb:HK:=λa own=>match a,own with
 | [.osl 0,.int .i64 k,.clo f []],[.row T 4 n g _]=>if T=CI/\f=125 then some ⟨AA.isL n g/\n<=100000/\k=n/\(∀s∈AA.lst n g,AD .u8 s.c.q),.tup [],[.row CI 4 (AA.lst n g).length (AA.row (LC AA.d AP (AA.lst n g))) none],[]⟩else none
 |_,_=>none
def FStb:FamH:=⟨List Stk,λ(l:List Stk)=>[.osl 0,.int .i64 (l.length:Int),.clo 125 []],λ(l:List Stk)=>[.row CI 4 l.length (AA.row l) none],λ(l:List Stk)=>l.length<=100000/\∀s∈l,AD .u8 s.c.q,λ_=>.tup [],λ(l:List Stk)=>[.row CI 4 l.length (AA.row (LC AA.d AP l)) none],[]⟩
def IStb:List Stk->Nat->Option Inv
 |l,2=>some {β:=Nat×Nat×List Stk,ok:=λ(f,a,L)=>Sub L l/\a<=l.length/\l.length-a<=f/\Kl AA.d AP l.length f a L=Kl AA.d AP l.length l.length 0 l,st:=λ(_,a,L)=>⟨[⟨8,none,.int .i64 ((a:Int)+20)⟩,⟨7,none,.int .i64 a⟩,⟨6,none,.int .i64 20⟩,⟨2,none,.clo 125 []⟩,⟨1,none,.int .i64 (l.length:Int)⟩,⟨0,none,.osl 0⟩],[.row CI 4 l.length (AA.row L) none]⟩,μ:=λ(f,_)=>f}
 |l,7=>some {β:=Nat×Nat×List Stk,ok:=λ(f,b,L)=>Sub L l/\20<=b/\b<=2*l.length+40/\l.length<=b+f/\LY AA.d AP l.length f b L=LC AA.d AP l,st:=λ(_,b,L)=>⟨[⟨6,none,.int .i64 b⟩,⟨2,none,.clo 125 []⟩,⟨1,none,.int .i64 (l.length:Int)⟩,⟨0,none,.osl 0⟩],[.row CI 4 l.length (AA.row L) none]⟩,μ:=λ(f,_)=>f,sub:=λ(f,b,_)=>some fun
  |9=>some {β:=Nat×Nat×List Stk,ok:=λ(g,a,M)=>Sub M l/\a<=l.length/\l.length-a<=g/\b<l.length/\LY AA.d AP l.length (f-1) (2*b) (IM AA.d AP l.length b g a M)=LC AA.d AP l,st:=λ(_,a,M)=>⟨[⟨8,none,.int .i64 ((a:Int)+2*b)⟩,⟨7,none,.int .i64 a⟩,⟨6,none,.int .i64 b⟩,⟨2,none,.clo 125 []⟩,⟨1,none,.int .i64 (l.length:Int)⟩,⟨0,none,.osl 0⟩],[.row CI 4 l.length (AA.row M) none]⟩,μ:=λ(g,_)=>g}
  |_=>none}
 |_,_=>none
theorem pStb:HS 167 hStb:=by
 refine HX {h:=[(198,f9c),(170,hIns)]} ⟨E6,E6,by simpa using⟨pSymN,pIns⟩⟩ FStb IStb hStb ?_ ?_ ?_ Tryz.func167 E5 E5 E5 ?_
 .intro args own r h x;unfold hStb at h;split at h
  .rename_i k f T n g c;split at h
   .rename_i F;obtain⟨rfl,rfl⟩:=F;cases h;obtain⟨G,p2,p3,H⟩:=x;have hl:=RT.lst_length AA n g;exact⟨AA.lst n g,⟨Ec,Er,Ec,Ji⟩,rfl,WG G,⟨E4,H⟩,rfl,rfl,rfl⟩
   .cases h
  .cases h
 .exact C5
 .exact Ca
 .rintro(l:List Stk) μ x;replace x:l.length<=100000/\∀s∈l,AD .u8 s.c.q:=x;obtain⟨h0,h5⟩:=x;have o:∀L:List Stk,L.length=l.length->AA.lst l.length (AA.row L)=L:=λL e=>by rw[<-e];exact RT.lst_row _ _
  have qd:∀L:List Stk,L.length=l.length->AA.isL l.length (AA.row L):=λL e=>by rw[<-e];exact AA.isL_row L
  refine X0a _ ?_;(repeat' first|constructor|intro h)<;>refine Lm ?_
  all_goals(try simp only[]at*)
  all_goals(try first
   |exact An)
  refine⟨(l.length,0,l),⟨Sub.refl l,Js _,by show l.length-0<=l.length;omega,rfl⟩,?_,?_⟩
  .exact X2h
  .rintro⟨f,a,L⟩ u;replace u:Sub L l/\a<=l.length/\l.length-a<=f/\Kl AA.d AP l.length f a L=Kl AA.d AP l.length l.length 0 l:=u;obtain⟨k1,k2,k3,k4⟩:=u;have y:=k1.1;have t:((a:Int)+20).toNat=a+20:=E4;by_cases v:a+20<=l.length
   .obtain⟨f,rfl⟩:∃B,f=B+1:=⟨f-1,E4⟩
    rw[f67 v]at k4;have z:=(WK (d:=AA.d) (lt:=AP) (a:=a) (b:=a+20) (l:=L) E4).trans k1;refine X0b _ ?_;(repeat' first|constructor|intro h)<;>refine Lm ?_
    all_goals(try simp only[In,t,o,k1.1]at*)
    all_goals(try first
     |exact Bm)
    refine⟨(f,a+20,FP AA.d AP a (a+20) L),⟨z,v,by show l.length-(a+20)<=f;omega,k4⟩,Ek,?_⟩;all_goals exact X3a
   .rw[d1k v]at k4;have z:=(WK (d:=AA.d) (lt:=AP) (a:=a) (b:=l.length) (l:=L) E4).trans k1;refine X0b _ ?_;(repeat' first|constructor|intro h)<;>refine Lm ?_
    all_goals(try simp only[In,t,o,k1.1]at*)
    all_goals(try first
     |exact Bm)
    refine⟨(l.length,20,FP AA.d AP a l.length L),⟨z,Jm _,by show 20<=2*l.length+40;omega,by show l.length<=20+l.length;omega,by show LY AA.d AP l.length l.length 20 (FP AA.d AP a l.length L)=_;rw[k4];rfl⟩,?_,?_⟩
    .exact X3a
    .clear k1 k2 k3 k4 y z t v;rintro⟨f,j,L⟩ u;replace u:Sub L l/\20<=j/\j<=2*l.length+40/\l.length<=j+f/\LY AA.d AP l.length f j L=LC AA.d AP l:=u;obtain⟨k1,k2,k3,k4,k5⟩:=u;have y:=k1.1;by_cases A:j<l.length
     .obtain⟨f,rfl⟩:∃B,f=B+1:=⟨f-1,E4⟩
      rw[f77 A]at k5;refine X0b _ ?_;(repeat' first|constructor|intro h)<;>refine Lm ?_
      all_goals(try simp only[In,k1.1]at*)
      all_goals(try first
       |exact An)
      refine⟨(l.length,0,L),⟨k1,Js _,by show l.length-0<=l.length;omega,A,k5⟩,?_,?_⟩
      .exact X2h
      .clear k1 k5 y;rintro⟨g,a,L⟩ u;replace u:Sub L l/\a<=l.length/\l.length-a<=g/\j<l.length/\LY AA.d AP l.length f (2*j) (IM AA.d AP l.length j g a L)=LC AA.d AP l:=u;obtain⟨k1,k6,k7,k8,k9⟩:=u;have y:=k1.1;have t:((a:Int)+j).toNat=a+j:=E4;have w:((a:Int)+2*j).toNat=a+2*j:=E4;by_cases v:a+2*j<=l.length
       .obtain⟨g,rfl⟩:∃I,g=I+1:=⟨g-1,E4⟩
        rw[f5y v]at k9;have C:=(LX (d:=AA.d) (lt:=AP) l.length a (a+j) (a+2*j) L E4 E4 E4).trans k1;refine X0b _ ?_;(repeat' first|constructor|intro h)<;>refine Lm ?_
        all_goals(try simp only[In,t,w,o,k1.1]at*)
        all_goals(try first
         |exact B2)
        refine⟨(g,a+2*j,DI AA.d AP l.length a (a+j) (a+2*j) L),⟨C,v,by show l.length-(a+2*j)<=g;omega,A,k9⟩,by show g<g+1;omega,?_⟩;all_goals exact X3b
       .by_cases E:a+j<l.length
        .rw[d3n v E]at k9;have C:=(LX (d:=AA.d) (lt:=AP) l.length a (a+j) l.length L E4 E4 E4).trans k1;refine X0b _ ?_;(repeat' first|constructor|intro h)<;>refine Lm ?_
         all_goals(try simp only[In,t,w,o,k1.1]at*)
         all_goals(try first
          |exact B2)
         refine⟨(f,2*j,DI AA.d AP l.length a (a+j) l.length L),⟨C,by show 20<=2*j;omega,by show 2*j<=_;omega,by show l.length<=2*j+f;omega,k9⟩,Ek,?_⟩;all_goals exact X3b
        .rw[d55 v E]at k9;refine X0b _ ?_;(repeat' first|constructor|intro h)<;>refine Lm ?_
         all_goals(try simp only[In,t,w,o,k1.1]at*)
         all_goals(try first
          |exact B2)
         refine⟨(f,2*j,L),⟨k1,by show 20<=2*j;omega,by show 2*j<=_;omega,by show l.length<=2*j+f;omega,k9⟩,Ek,?_⟩;all_goals exact X3b
     .rw[d1s A]at k5;refine X0b _ ?_;(repeat' first|constructor|intro h)<;>refine Lm ?_
      all_goals(try simp only[In,k1.1]at*)
      all_goals(try first
       |exact An
       |(intro _ _;left;rw[<-k5];done))
def c0h:HK:=λa own=>match a,own with
 | [.osl 0,.clo f []],[.row T 4 n g _]=>if T=CI/\f=125 then some ⟨AA.isL n g/\n<=100000/\(∀s∈AA.lst n g,AD .u8 s.c.q),.tup [],[.row CI 4 (AA.lst n g).length (AA.row (LC AA.d AP (AA.lst n g))) none],[]⟩else none
 |_,_=>none
def f8u:FamH:=⟨List Stk,λ_=>[.osl 0,.clo 125 []],λ(l:List Stk)=>[.row CI 4 l.length (AA.row l) none],λ(l:List Stk)=>l.length<=100000/\∀s∈l,AD .u8 s.c.q,λ_=>.tup [],λ(l:List Stk)=>[.row CI 4 l.length (AA.row (LC AA.d AP l)) none],[]⟩
theorem f6f:HS 124 c0h:=by
 refine HX {h:=[(167,hStb)]} ⟨E6,E6,by simpa using pStb⟩ f8u (λ_ _=>none) c0h ?_ ?_ ?_ Tryz.func124 E5 E5 E5 ?_
 .intro args own r h a;unfold c0h at h;split at h
  .rename_i f T n g c;split at h
   .rename_i j;obtain⟨rfl,rfl⟩:=j;cases h;obtain⟨k,p2,m⟩:=a;have hl:=RT.lst_length AA n g;exact⟨AA.lst n g,⟨Ec,Ec,Ji⟩,rfl,WG k,⟨E4,m⟩,rfl,rfl,rfl⟩
   .cases h
  .cases h
 .exact C3
 .exact Ca
 .rintro(l:List Stk) μ a;replace a:l.length<=100000/\∀s∈l,AD .u8 s.c.q:=a;obtain⟨b,d⟩:=a;have o:AA.lst l.length (AA.row l)=l:=RT.lst_row _ _;have e:AA.isL l.length (AA.row l):=AA.isL_row l;refine X0a _ ?_;(repeat' first|constructor|intro h)<;>refine Lm ?_
  all_goals(try simp only[o])
  all_goals first
   |exact⟨e,b,Ji,d⟩
   |exact⟨e,b,rfl,d⟩
   |exact λ_ _=>Ji
   |exact B7
   |exact A9
   |skip
def Sk(P:Stk->Bool)(l:List Stk):Int:=match l.findIdx? P with
 |some i=>i
 |none=> -1
theorem f0u{P:Stk->Bool}{l:List Stk}{i:Nat}(hi:i<l.length)(h:∀j,j<i->P (l.getD j AA.d)=false)(a:P (l.getD i AA.d)=true):Sk P l=i:=by
 have:l.findIdx? P=some i:=by
  rw[L6];refine⟨hi,?_,λj b=> ?_⟩
  .simpa[Jd,hi]using a
  .have:=h j b;have c:j<l.length:=E4;simpa[Jd,c]using this
 simp[Sk,this]
theorem d4b{P:Stk->Bool}{l:List Stk}(h:∀j,j<l.length->P (l.getD j AA.d)=false):Sk P l= -1:=by
 have:l.findIdx? P=none:=by rw[Ln];intro x hx;obtain⟨j,a,rfl⟩:=K7.1 hx;have:=h j a;simpa[Jd,a]using this
 simp[Sk,this]
theorem f04(P:Stk->Bool)(l:List Stk):decide (0<=Sk P l)=l.any P:=by
 unfold Sk;cases h:l.findIdx? P with
 |none=>
  have:=Ln.1 h;have:l.any P=false:=by rw[Jy];intro x hx;simpa using this x hx
  rw[this];rfl
 |some i=>
  have:=L6.1 h;obtain⟨a,b,_⟩:=this;have:l.any P=true:=Jz.2 ⟨_,Kd a,b⟩;rw[this];simp
def badC(a b c:Int):Bool:= !decide (DQ a b c=0)
def NQ(s:Stk):Bool:=badC s.c.x s.c.y s.c.q
def kMv1:AK
 | [.agg [.int .i64 a,.int .i64 b,.int .u8 c,x]]=>match AC.as x with
   |some u=>some (AC.isL u.1 u.2,.bool (badC a b c))
   |none=>none
 |_=>none
def FMv1:Fam:=⟨Stk,λs=>[.agg [.int .i64 s.c.x,.int .i64 s.c.y,.int .u8 s.c.q,.sl 1 s.l.length (AC.row s.l) none]],λ_=>True,λs=>.bool (NQ s)⟩
theorem pMv1:PS 122 kMv1:=by
 refine con [(123,Qu)] (by simpa using Ul) FMv1 (λ_ _=>none) kMv1 ?_ ?_ Tryz.func122 E5 E5 E5 ?_
 .intro args pre s h d;unfold kMv1 at h;split at h
  .rename_i a b c x;split at h
   .rename_i u e;cases h;refine⟨⟨⟨a,b,c⟩,AC.lst u.1 u.2⟩,⟨⟨E9,E9,E9,AC.as_leL e d,Ji⟩,Ji⟩,Ji,rfl⟩
   .cases h
  .cases h
 .exact C4
 .rintro(s:Stk) d;refine X0a _ ?_;(repeat' first|constructor|intro h)<;>refine Lm ?_
  all_goals(first
   |exact Ji
   |rfl
   |skip)
def c5f:AK
 | [x,.clo g []]=>if g=122 then(IQ x).map λq=>(q.1,.int .i64 (Sk NQ q.2))else none
 |_=>none
def FIdxFS:Fam:=⟨List Stk,λL=>[FI L,.clo 122 []],λL=>ET L,λL=>.int .i64 (Sk NQ L)⟩
def IIdxFS:List Stk->Nat->Option Inv
 |l,2=>some {β:=Nat,ok:=λi=>i<=l.length/\∀j,j<i->NQ (l.getD j AA.d)=false,st:=λi=>⟨[⟨8,none,.int .i64 i⟩,⟨7,none,.int .i64 l.length⟩,⟨1,none,.clo 122 []⟩,⟨0,none,FI l⟩],[]⟩,μ:=λi=>l.length-i}
 |_,_=>none
theorem pIdxFS:PS 166 c5f:=by
 refine con [(122,kMv1)] (by simpa using pMv1) FIdxFS IIdxFS c5f ?_ ?_ Tryz.func166 E5 E5 E5 ?_
 .intro args pre s h a;unfold c5f at h;split at h
  .split at h
   .rename_i g;subst g;simp only[Iq]at h;obtain⟨⟨q,L⟩,hx,rfl,rfl⟩:=h;obtain⟨h1,h2⟩:=LD hx a;exact E2
   .cases h
  .cases h
 .exact C3
 .rintro(l:List Stk) a;replace a:ET l:=a;have hl:l.length<=100000:=a.1;refine X0a _ ?_;(repeat' first|constructor|intro h)<;>refine Lm ?_
  refine⟨(0:Nat),⟨Js _,λj d=>E4⟩,?_,?_⟩
  .exact X3c
  .intro i k;obtain⟨f,c⟩:=k;replace f:i<=l.length:=f;refine X0a _ ?_;(repeat' first|constructor|intro h)<;>refine Lm ?_
   all_goals(try simp only[In]at*)
   all_goals(try first
    |exact As
    |exact AC.isL_row _
    |exact λ_=>AC.isL_row _
    |exact(f0u E4 c E8).symm
    |exact(d4b λj d=>c j E4).symm
    |exact Ar)
   refine⟨i+1,⟨by show i+1<=l.length;omega,λj d=> ?_⟩,Ef,?_⟩
   .by_cases e:j<i
    .exact c j e
    .have:j=i:=E4;subst this;assumption
   .refine X0a _ ?_;(repeat' first|constructor|intro h)<;>refine Lm ?_
    all_goals first|omega|exact Bk|skip
def c5q:AK
 | [x,.clo g []]=>if g=122 then(IQ x).map λq=>(q.1,.bool (q.2.any NQ))else none
 |_=>none
def FCntFS:Fam:=⟨List Stk,λL=>[FI L,.clo 122 []],λL=>ET L,λL=>.bool (L.any NQ)⟩
theorem pCntFS:PS 121 c5q:=by
 refine con [(166,c5f)] (by simpa using pIdxFS) FCntFS (λ_ _=>none) c5q ?_ ?_ Tryz.func121 E5 E5 E5 ?_
 .intro args pre s h a;unfold c5q at h;split at h
  .split at h
   .rename_i b;subst b;simp only[Iq]at h;obtain⟨⟨q,L⟩,hx,rfl,rfl⟩:=h;obtain⟨h1,h2⟩:=LD hx a;exact E2
   .cases h
  .cases h
 .exact C3
 .rintro(l:List Stk) a;replace a:ET l:=a;refine X0a _ ?_;(repeat' first|constructor|intro h)<;>refine Lm ?_
  all_goals(try simp only[RT.lst_row]at*)
  all_goals(first
   |exact⟨AA.isL_row l,a.1,a.2⟩
   |exact f04 _ _
   |skip)
def Tu(r:Mv)(s:Stk):Int:=GG r.t r.x r.y s.c.x s.c.y s.c.q
def HY(r:Mv)(s:Stk):Stk:=⟨⟨LI r.t r.x r.y s.c.x s.c.y,LV r.t r.x r.y s.c.x s.c.y,KS r.t s.c.q⟩,s.l⟩
def GP(r:Mv)(L:List Stk):Int:=if CB r.t r.x r.y=0/\L.any NQ=false then(if L.all (λs=>decide (Tu r s=0))=true then 0 else 3)else 1
def DJ(r:Mv)(L:List Stk):List Stk:=if GP r L=0 then LC AA.d AP (L.map (HY r))else []
theorem f8y{r:Mv}{L:List Stk}(h:¬CB r.t r.x r.y=0):GP r L=1:=by unfold GP;rw[if_neg (λa=>h a.1)]
theorem f1n{r:Mv}{L:List Stk}(h:L.any NQ=true):GP r L=1:=by unfold GP;rw[if_neg (λa=>by simp[a.2]at h)]
theorem d28{r:Mv}{L:List Stk}{i:Nat}(b:CB r.t r.x r.y=0)(c:L.any NQ=false)(hi:i<L.length)(h:¬Tu r (L.getD i AA.d)=0):GP r L=3:=by unfold GP;rw[Jf ⟨b,c⟩,Jg];intro a;rw[Jp]at a;have:=a _ (Kd hi);rw[Jq]at this;apply h;simpa[Jd,hi]using this
theorem b8y{r:Mv}{L:List Stk}(b:CB r.t r.x r.y=0)(c:L.any NQ=false)(h:∀i,i<L.length->Tu r (L.getD i AA.d)=0):GP r L=0:=by unfold GP;rw[Jf ⟨b,c⟩,Jf];rw[Jp];intro s hs;obtain⟨i,a,rfl⟩:=K7.1 hs;have:=h i a;simpa[Jd,a]using this
theorem f0b{r:Mv}{L:List Stk}(h:GP r L≠0):(DJ r L).length=0:=by unfold DJ;rw[if_neg h];rfl
def PM(r:Mv)(L:List Stk)(i q:Nat):List SV:=[.int .i64 (if q<i then(HY r (L.getD q AA.d)).c.x else 0),.int .i64 (if q<i then(HY r (L.getD q AA.d)).c.y else 0),.int .u8 (if q<i then(HY r (L.getD q AA.d)).c.q else 0),if q<i then .sl 1 (L.getD q AA.d).l.length (AC.row (L.getD q AA.d).l) none else .con (.slice none 0 0)]
theorem d8p{r:Mv}{L:List Stk}{i q:Nat}(h:q<i):PM r L i q=AA.sv (HY r (L.getD q AA.d)):=by simp only[PM,Jf h];rfl
theorem f1x{r:Mv}{L:List Stk}{i q:Nat}(h:¬q<i):PM r L i q=d1c:=by simp only[PM,Jg h];rfl
theorem f2p{r:Mv}{L:List Stk}{q:Nat}(h:q<L.length):PM r L L.length q=AA.row (L.map (HY r)) q:=by rw[d8p h];simp[RT.row,h]
theorem sm_lst{r:Mv}{L:List Stk}:AA.lst L.length (PM r L L.length)=L.map (HY r):=by
 have e:AA.lst L.length (PM r L L.length)=AA.lst L.length (AA.row (L.map (HY r))):=by simp only[RT.lst];apply Me;intro q hq;rw[f2p Gd]
 have k:=RT.lst_row AA (L.map (HY r));rw[Ke]at k;rw[e,k]
theorem sm_isL{r:Mv}{L:List Stk}:AA.isL L.length (PM r L L.length):=by intro q hq;rw[f2p hq];exact AA.isL_row (L.map (HY r)) q Gd
theorem d1n(t Q:Int):AD .u8 (KS t Q):=by simp only[KS,Rd];cases MS t Q 3<;>cases MS t Q 2<;>cases MS t Q 1<;>cases MS t Q 0<;>simp[AD]
theorem f9x{r:Mv}{L:List Stk}{i q:Nat}{c:Option Nat}:GU (DW (decide (q=i)) [.int .i64 (LI r.t r.x r.y (L.getD i AA.d).c.x (L.getD i AA.d).c.y),.int .i64 (LV r.t r.x r.y (L.getD i AA.d).c.x (L.getD i AA.d).c.y),.int .u8 (KS r.t (L.getD i AA.d).c.q),.sl 1 (L.getD i AA.d).l.length (AC.row (L.getD i AA.d).l) c] (PM r L i q)) (PM r L (i+1) q):=by
 by_cases e:q=i
 .subst e;rw[d8p (Nat.lt_succ_self _),f1x (M1 _),K2 rfl];right;exact⟨rfl,rfl,rfl,⟨rfl,F5,Gx,λ_ _=>rfl⟩,Ji⟩
 .left;rw[K5 e];by_cases h:q<i
  .rw[d8p h,d8p E4];rfl
  .rw[f1x h,f1x E4];rfl
def b8w:AK
 | [x,.agg [.int .u8 t,.int .i64 a,.int .i64 b]]=>(IQ x).map λq=>(q.1/\0<=t/\t<=255/\∀s∈q.2,AD .u8 s.c.q,.tup [.sl 4 (DJ ⟨t,a,b⟩ q.2).length (AA.row (DJ ⟨t,a,b⟩ q.2)) none,.int .i64 (GP ⟨t,a,b⟩ q.2)])
 |_=>none
def f7n:Fam:=⟨List Stk×Mv,λ(L,r)=>[FI L,MQ r],λ(L,r)=>ET L/\0<=r.t/\r.t<=255/\∀s∈L,AD .u8 s.c.q,λ(L,r)=>.tup [.sl 4 (DJ r L).length (AA.row (DJ r L)) none,.int .i64 (GP r L)]⟩
def f9m:List Stk×Mv->Nat->Option Inv
 |(L,r),5=>some {β:=Nat,ok:=λi=>i<=L.length/\∀j,j<i->Tu r (L.getD j AA.d)=0,st:=λi=>⟨[⟨23,none,.int .i64 i⟩,⟨22,none,.int .i64 L.length⟩,⟨21,none,FI L⟩,⟨6,none,.osl 1⟩,⟨3,none,.own 0 0⟩],[.cells 31 [.int .u8 r.t,.int .i64 r.x,.int .i64 r.y],.row 41 4 L.length (PM r L i) (some L.length)]⟩,μ:=λi=>L.length-i}
 |_,_=>none
theorem f8w:PS 84 b8w:=by
 refine NU {l:=[(17,OI),(121,c5q),(119,VG)],h:=[(87,Yf),(124,c0h)],gr:=λid=>bif Nat.beq id 10 then [.fz 4,.flat 1]else []} ⟨by simpa using⟨QO,pCntFS,b56⟩,E6,by simpa using⟨c86,f6f⟩⟩ f7n f9m b8w ?_ ?_ Tryz.func84 E5 E5 E5 ?_
 .intro args pre s h hp;unfold b8w at h;split at h
  .rename_i x t a b;simp only[Iq]at h;obtain⟨⟨q,L⟩,hx,rfl,rfl⟩:=h;obtain⟨E,F⟩:=hp;obtain⟨G,H⟩:=LD hx E;exact⟨(L,⟨t,a,b⟩),⟨G,Hk,Ji⟩,⟨H,F⟩,rfl⟩
  .cases h
 .exact C3
 .rintro⟨L,r⟩ hp;replace hp:ET L/\0<=r.t/\r.t<=255/\∀s∈L,AD .u8 s.c.q:=hp;have n:=hp.1.1;have o:GP r L≠0->(DJ r L).length=0:=f0b;refine X0a _ ?_;(repeat' first|constructor|intro h)<;>refine Lm ?_
  all_goals(try simp only[RT.lst_row,Ip,Iy,Iv]at*)
  all_goals(try first
   |exact⟨hp.2.1,hp.2.2.1⟩
   |exact λ_=>⟨AA.isL_row L,n,hp.1.2⟩
   |exact Aw
   |(have w:GP r L=1:=Or.elim ‹_\/_› f8y f1n
     first|exact w.symm|exact o (by rw[w];decide)))
  have g:CB r.t r.x r.y=0/\L.any NQ=false:=‹_/\_›;refine⟨(0:Nat),⟨Js _,λj k=>E4⟩,?_,?_⟩
  .refine X0b _ ?_;(repeat' first|constructor|intro h)<;>refine Lm ?_
   all_goals first|exact Bg|(intro q _;exact .inl (by rw[f1x (K3 _)];rfl))|exact A8|rfl|skip
  .rintro i ⟨z,k⟩;replace z:i<=L.length:=z;have hm:i<L.length->L.getD i AA.d∈L:=λh=>Hs;by_cases b6:i<L.length
   .have hQ:0<=(L.getD i AA.d).c.q:=by have:=hp.2.2.2 _ (hm b6);simp only[AD]at this;omega
    by_cases m:GG r.t r.x r.y (L.getD i AA.d).c.x (L.getD i AA.d).c.y (L.getD i AA.d).c.q=0
    .refine X0b _ ?_;(repeat' first|constructor|intro h)<;>refine Lm ?_
     all_goals(try simp only[In,Ip]at*)
     all_goals(try first
      |exact Bs)
     refine⟨i+1,⟨by show i+1<=L.length;omega,λj bm=> ?_⟩,Ef,?_⟩
     .by_cases e:j<i
      .exact k j e
      .have:j=i:=E4;subst this;exact m
     .have k0:∀v,keep (GG r.t r.x r.y (L.getD i AA.d).c.x (L.getD i AA.d).c.y (L.getD i AA.d).c.q) v=v:=λv=>by unfold keep;rw[if_pos m]
      refine X0b _ ?_;(repeat' first|constructor|intro h)<;>refine Lm ?_
      all_goals(try simp only[k0])
      all_goals first
       |omega
       |exact A8
       |exact λ_ _=>f9x
       |rfl
       |skip
    .have A:GP r L=3:=d28 g.1 g.2 b6 m;refine X0b _ ?_;(repeat' first|constructor|intro h)<;>refine Lm ?_
     all_goals(try simp only[In,Ip]at*)
     all_goals(try first
      |exact Bs
      |exact A.symm
      |exact o (by rw[A];decide))
   .have I:i=L.length:=E4;subst I;have B:GP r L=0:=b8y g.1 g.2 k;have C:DJ r L=LC AA.d AP (L.map (HY r)):=by unfold DJ;rw[if_pos B]
    have su:(DJ r L).length=L.length:=by rw[C,(Xi _).1,Ke]
    refine X0b _ ?_;(repeat' first|constructor|intro h)<;>refine Lm ?_
    all_goals(try simp only[In,sm_lst,Ke,Ip]at*)
    all_goals(try first
     |exact C2
     |omega
     |exact B.symm
     |exact⟨sm_isL,n,λs hs=>by obtain⟨u,_,rfl⟩:=Jx.1 hs;exact d1n _ _⟩
     |(intro _ _;left;rw[C];done))
def f37(p:Pt):SV:=.agg [.int .i64 p.W,.int .i64 p.H,.sl 3 p.l.length (DZ p.l) (some p.l.length)]
def ptOK(p:Pt):Prop:=p.l.length<=100000
def c7q:AK
 | [x]=>(NR x).map λq=>(q.1,f37 q.2)
 |_=>none
def FStCop:Fam:=⟨Pt,λp=>[IH p],ptOK,f37⟩
theorem pStCop:PS 36 c7q:=by
 refine con [(77,b0v),(78,b0b)] (by simpa using⟨c39,c34⟩) FStCop (λ_ _=>none) c7q ?_ ?_ Tryz.func36 E5 E5 E5 ?_
 .intro args pre s h a;unfold c7q at h;split at h
  .rename_i x;simp only[Iq]at h;obtain⟨⟨q,p⟩,hx,rfl,rfl⟩:=h;obtain⟨b,c⟩:=OA hx a;exact⟨p,⟨b,Ji⟩,c,rfl⟩
  .cases h
 .exact C4
 .rintro p a;replace a:p.l.length<=100000:=a;exact X2d
def FU(p:Pt)(r:Mv)(L:List Stk)(m:Mv):Int:=if¬GI r.t r.x r.y m.t m.x m.y=0\/¬GP m L=0 then 3 else if¬CZ p (EH r m) (DJ m L)=0 then 3 else 0
def rMvd(p:Pt)(r:Mv)(L:List Stk)(m:Mv):SV:=.tup [.agg (BD (zP (FU p r L m) p) (zR (FU p r L m) (EH r m)) (zL (FU p r L m) (DJ m L))),.int .i64 (FU p r L m)]
def XD:AK
 | [x,.agg [.int .u8 t,.int .i64 a,.int .i64 b]]=>(Fo x).map λq=>(q.1/\0<=t/\t<=255,rMvd q.2.1 q.2.2.1 q.2.2.2 ⟨t,a,b⟩)
 |_=>none
def FMvd:Fam:=⟨(Pt×Mv×List Stk)×Mv,λ((p,r,L),m)=>[.agg (BD p r L),MQ m],λ((p,r,L),m)=>(prOK p r/\EV L)/\0<=m.t/\m.t<=255,λ((p,r,L),m)=>rMvd p r L m⟩
theorem mv_in{L:List Stk}{m:Mv}(h:EV L)(c:GP m L=0):EV (DJ m L):=by
 have a:(DJ m L).Perm (L.map (HY m)):=by unfold DJ;rw[Jf c];exact(Xi _).3
 refine⟨⟨by rw[a.length_eq,Ke];exact h.1.1,λs hs=> ?_⟩,λs hs=> ?_,?_⟩
 .obtain⟨t,b,rfl⟩:=Jx.1 (a.mem_iff.1 hs);exact h.1.2 t b
 .obtain⟨t,b,rfl⟩:=Jx.1 (a.mem_iff.1 hs);exact d1n _ _
 .rw[d62 a,f2b (f:=HY m) (λ_=>rfl)];exact h.2.2
theorem th_in{p:Pt}{r m:Mv}(h:prOK p r)(a:0<=m.t/\m.t<=255):prOK p (EH r m):=⟨h.1,c68 h.2.1 a.1⟩
theorem pMvd:PS 46 XD:=by
 refine con [(83,VE),(84,b8w),(36,c7q),(85,We)] (by simpa using⟨f87,f8w,pStCop,c2a⟩) FMvd (λ_ _=>none) XD ?_ ?_ Tryz.func46 E5 E5 E5 ?_
 .intro args pre s h hp;unfold XD at h;split at h
  .rename_i x t a b;simp only[Iq]at h;obtain⟨⟨q,p,r,L⟩,hx,rfl,rfl⟩:=h;obtain⟨h1,h2,h3⟩:=Ll hx hp.1;exact E3
  .cases h
 .exact C3
 .rintro⟨⟨p,r,L⟩,m⟩ ⟨⟨e,c⟩,d⟩;have j:=λh=>@mv_in L m c h;have k:=th_in e d;have l:=d3x c.1;have f:=(Ty e c).1;refine X0a _ ?_;(repeat' first|constructor|intro h)<;>refine Lm ?_
  all_goals(try simp only[RT.lst_row,CR,QJ,Qb,Iy,Ip,Iv]at*)
  all_goals(try first
   |exact⟨e.2,d⟩
   |exact⟨l,d.1,d.2,c.2.1⟩
   |exact f.1
   |(obtain⟨g1,n⟩:=‹GI r.t r.x r.y m.t m.x m.y=0/\GP m L=0›
     have hi:=j n;exact⟨⟨⟨f.1,f.2.1⟩,k.2⟩,d3x hi.1,hi.2⟩))
  all_goals first
   |(have g:FU p r L m=3:=by
      unfold FU;first
       |(rw[Jf E8];done)
       |(rw[Jg E4,Jf E8];done)
     simp only[zP,zR,zL,g];all_goals first|exact Az)
   |(have g:FU p r L m=0:=by
      unfold FU;rw[Jg E4,Jg (λq=>q E8)]
     simp only[zP,zR,zL,g,eq_self,Kt];all_goals first|exact A5)
   |skip
def FO(p:Pt)(r:Mv)(L:List Stk)(m:Mv):Int:=if¬FE p r L=0 then FE p r L else if¬CB m.t m.x m.y=0\/(CB m.t m.x m.y=0/\4<=m.t)then 1 else FU p r L m
def Ud(p:Pt)(r:Mv)(L:List Stk)(m:Mv):SV:=.tup [.agg (BD (zP (FO p r L m) p) (zR (FO p r L m) (EH r m)) (zL (FO p r L m) (DJ m L))),.int .i64 (FO p r L m)]
def kMov:AK
 | [x,.agg [.int .u8 t,.int .i64 a,.int .i64 b]]=>(Fo x).map λq=>(q.1/\0<=t/\t<=255,Ud q.2.1 q.2.2.1 q.2.2.2 ⟨t,a,b⟩)
 |_=>none
def FMov:Fam:=⟨(Pt×Mv×List Stk)×Mv,λ((p,r,L),m)=>[.agg (BD p r L),MQ m],λ((p,r,L),m)=>(prOK p r/\EV L)/\0<=m.t/\m.t<=255,λ((p,r,L),m)=>Ud p r L m⟩
theorem pMov:PS 16 kMov:=by
 refine con [(12,PC),(17,OI),(45,XE),(46,XD)] (by simpa using⟨Uk,QO,f39,pMvd⟩) FMov (λ_ _=>none) kMov ?_ ?_ Tryz.func16 E5 E5 E5 ?_
 .intro args pre s h hp;unfold kMov at h;split at h
  .rename_i x t a b;simp only[Iq]at h;obtain⟨⟨q,p,r,L⟩,hx,rfl,rfl⟩:=h;obtain⟨h1,h2,h3⟩:=Ll hx hp.1;exact E3
  .cases h
 .exact C3
 .rintro⟨⟨p,r,L⟩,m⟩ ⟨⟨f,g⟩,d⟩;have e:=Ty f g;refine X0a _ ?_;(repeat' first|constructor|intro h)<;>refine Lm ?_
  all_goals(try simp only[RT.lst_row,CR,QJ,Qb,Iy,It,Ip,Iv]at*)
  all_goals(try first
   |exact e
   |exact⟨e,d⟩
   |exact d
   |exact λ_=>d
   |omega)
  all_goals first
   |(have c:FO p r L m=FE p r L:=by
      unfold FO;rw[Jf E8]
     simp only[zP,zR,zL,c,Jg ‹¬ FE p r L=0›];all_goals first|exact Az)
   |(have c:FO p r L m=1:=by
      unfold FO;rw[Jg (λq=>q ‹FE p r L=0›),Jf (by first|assumption|omega)]
     simp only[zP,zR,zL,c];all_goals first|exact Az)
   |(have c:FO p r L m=FU p r L m:=by
      unfold FO;rw[Jg (λq=>q ‹FE p r L=0›),Jg (by first|assumption|omega)]
     simp only[c];all_goals first|exact A5)
   |skip
section
theorem st_tr(x y z:Stk)(b:AP y x=false)(a:AP z y=false):AP z x=false:=by
 rw[Wh]at b a⊢;have b:=M4 b;have a:=M4 a;refine K5 λh=> ?_;have n1:=IG (BC y.c) (BC x.c);have n2:=IG (BC z.c) (BC y.c);by_cases d:AZ (BC y.c) (BC x.c)=0
 .rw[NV _ _ d]at a;exact a h
 .by_cases e:AZ (BC z.c) (BC y.c)=0
  .rw[NV _ _ e]at h;exact b h
  .have f:=RD _ _ _ (show AZ (BC x.c) (BC y.c)<0 from E4) (show AZ (BC y.c) (BC z.c)<0 from E4);have g:=RD _ _ _ h f;rw[Rv]at g;omega
theorem st_as(x y:Stk)(h:AP x y=true):AP y x=false:=by rw[Wh]at h⊢;have h:=Kq h;refine K5 λa=> ?_;have:=RD _ _ _ h a;rw[Rv]at this;omega
theorem d24{M:List Stk}(h:CK M):JC JT (LC AA.d AP M):=by
 have g:=(Xi (d:=AA.d) (lt:=AP) M).3;have a:=(((g.map JT).nodup_iff).2 (d5g h))
 have hs:=d95 st_tr st_as (d:=AA.d) M;rw[<-g.length_eq]at hs;generalize LC AA.d AP M=K at a hs;rw[JC,Kg];intro i j k b l;have f:=hs i j (Js _) l b;rw[Wh,Jd,Jd,Je k,Je b]at f;have f:¬AZ (BC K[j].c) (BC K[i].c)<0:=M4 f;have n1:=IG (BC K[j].c) (BC K[i].c);have ba:AZ (BC K[i].c) (BC K[j].c)≠0:=λe=>by rw[List.Nodup,Kw,Kg]at a;exact a i j k b l (NV _ _ e)
 show AZ (BC K[i].c) (BC K[j].c)<0;omega
end
def hS(m:Mv)(s:Stk):Stk:=⟨s.c,gv m s.l⟩
theorem f5w{m:Mv}(h:m.t<4)(M:List Stk):M.map (hS m)=M:=by
 have:hS m=id:=by funext s;unfold hS gv;rw[if_pos h];rfl
 rw[this,List.map_id]
theorem d2e{m:Mv}(h:¬m.t<4)(M:List Stk):M.map (hS m)=M.map Fl:=by
 have:hS m=Fl:=by funext s;unfold hS gv Fl;rw[if_neg h]
 rw[this]
section
variable{p:Pt}{r m m':Mv}{L M:List Stk}{P:Int->Mv}{B:Int}
theorem f59{l:List Int}:IE l=false↔l.Nodup:=⟨b63,d4a⟩
theorem c5t(L:List Stk):(BX (L.map Fl)).Perm (BX L):=by
 induction L with
 |nil=>exact .refl _
 |cons s L a=>
  have b:BX ((s::L).map Fl)=s.l.reverse++BX (L.map Fl):=rfl;have c:BX (s::L)=s.l++BX L:=rfl;rw[b,c];exact(List.reverse_perm _).append a
theorem c8x(L:List Stk)(i:Nat):(L.map Fl).getD i AA.d=Fl (L.getD i AA.d):=by rw[Jd,Jd,K1];cases L[i]?<;>rfl
theorem sk_rev:CZ p r (L.map Fl)=CZ p r L:=by
 have a:JP p.W p.H (L.map Fl)=JP p.W p.H L:=by
  have d:IE (BX (L.map Fl))=IE (BX L):=by have:=(c5t L).nodup_iff;rw[<-f59,<-f59]at this;cases h1:IE (BX (L.map Fl))<;>cases h2:IE (BX L)<;>rw[h1,h2]at this<;>simp at this<;>rfl
  have s:∀n i,KY n (L.map Fl) i=KY n L i:=λn i=>by unfold KY;rw[c8x,c8x];simp only[Fl,N7,List.any_reverse];rfl
  unfold JP;rw[d,(c5t L).length_eq,Ke];simp only[show KY (EP p.W p.H) (L.map Fl)=KY (EP p.W p.H) L from funext (s _)]
 have b:(L.map Fl).any (QV (CA p r))=L.any (QV (CA p r)):=by rw[List.any_map];congr 1;funext s;show (s.l.reverse).any _=s.l.any _;rw[List.any_reverse];rfl
 have c:(L.map Fl).any Qe=L.any Qe:=by rw[List.any_map];rfl
 unfold CZ;rw[a,b,c]
theorem sk_h:CZ p r (L.map (hS m))=CZ p r L:=by
 by_cases h:m.t<4
 .rw[f5w h]
 .rw[d2e h,sk_rev]
theorem f4v:FU p r L m=0\/FU p r L m=3:=by
 unfold FU;repeat' split
 all_goals simp
theorem c8d(h:FU p r L m=0):GI r.t r.x r.y m.t m.x m.y=0/\GP m L=0/\CZ p (EH r m) (DJ m L)=0:=by
 unfold FU at h;split at h
 .cases h
 .rename_i a;split at h
  .cases h
  .rename_i b;exact⟨Mj λq=>a (.inl q),Mj λq=>a (.inr q),Mj b⟩
theorem f2v(a:GI r.t r.x r.y m.t m.x m.y=0)(b:GP m L=0)(c:CZ p (EH r m) (DJ m L)=0):FU p r L m=0:=by unfold FU;rw[Jg (λq=>q.elim (λq=>q a) (λq=>q b)),Jg (λq=>q c)]
theorem f8t{c:Cl}(h:DQ c.x c.y c.q=0):(-4096<=c.x/\c.x<=4096)/\(-4096<=c.y/\c.y<=4096)/\c.q<=3:=by
 unfold DQ at h;split at h
 .omega
 .cases h
theorem c7b(h:GP m L=0):CB m.t m.x m.y=0/\(∀s∈L,DQ s.c.x s.c.y s.c.q=0/\DQ (CL m s.c).x (CL m s.c).y (CL m s.c).q=0)/\DJ m L=LC AA.d AP (L.map (HY m)):=by
 refine⟨?_,λs hs=> ?_,by unfold DJ;rw[if_pos h]⟩
 .unfold GP at h;split at h
  .rename_i b;exact b.1
  .cases h
 .unfold GP at h;split at h
  .rename_i b;split at h
   .rename_i e;rw[Jp]at e;have a:=Kq (e s hs);unfold Tu GG at a;split at a
    .rename_i f;split at a
     .rename_i g;exact⟨f.2,g⟩
     .cases a
    .cases a
   .cases h
  .cases h
theorem StG.vm4(X:StG p r L P B)(hB:B<=4096){i:Int}(hi:AR p i):vM (P i)/\vC (AQ p P i):=by
 have a:=X.bd i hi;obtain⟨b,c⟩:=X.G.ok i hi;have d:=KQ X.hs X.G hi;have hc:=PP X.hs hi.1 hi.2;have hx:AQ p P i=⟨(sq (P i).t (AJ p.W p.H i).x (AJ p.W p.H i).y).1+(P i).x,(sq (P i).t (AJ p.W p.H i).x (AJ p.W p.H i).y).2+(P i).y,tq (P i).t (AJ p.W p.H i).q⟩:=rfl;have W8:(-400<=(sq (P i).t (AJ p.W p.H i).x (AJ p.W p.H i).y).1/\(sq (P i).t (AJ p.W p.H i).x (AJ p.W p.H i).y).1<=400)/\ -400<=(sq (P i).t (AJ p.W p.H i).x (AJ p.W p.H i).y).2/\(sq (P i).t (AJ p.W p.H i).x (AJ p.W p.H i).y).2<=400:=by
  unfold sq;repeat' split
  all_goals(dsimp only;omega)
 refine⟨f21 b c ?_ ?_,?_⟩
 .rw[hx]at a;simp only at a;omega
 .rw[hx]at a;simp only at a;omega
 .unfold vC;unfold BH at d;omega
structure MvG (p:Pt) (r:Mv) (L:List Stk) (m:Mv) (M:List Stk):Prop where
 th:EH r m=BE r m
 vm:vM m
 vr:vM (BE r m)
 g:StG p (BE r m) M (AM p (BE r m)) 4096
 ck:FE p (BE r m) M=0
 sk:CZ p (BE r m) M=0
 pm:M.Perm (L.map (gS m))
 lt:JC JT M
theorem f2n(X:StG p r L (AM p r) B)(hB:B<=4000)(k:CM m)(h:FU p r L m=0):MvG p r L m ((DJ m L).map (hS m)):=by
 have hs:=X.hs;have hN:=CQ hs;have w:AR p 0:=⟨M3 _,E4⟩
 have a:=(X.G.ok 0 w).1;rw[X.r0]at a;obtain⟨z,A,f⟩:=c8d h;obtain⟨b1,b2,b3⟩:=c7b A;obtain⟨C,t2,g,e⟩:=To a.1 k.1 z;have n:EH r m=BE r m:=C;rw[n]at f e;have S:=f17 f e.1 (λs hs=>by have j:(DJ m L).Perm (L.map (HY m)):=Hx;obtain⟨t,o,rfl⟩:=Jx.1 (j.mem_iff.1 hs);exact d1n _ _)
 have cv:∀s∈L,CL m s.c=AV m s.c:=λs hs=>by have hb:=X.cB hs;have E:=X.cQ hs;unfold BH at E;exact Qt g E4
 have u:((DJ m L).map (hS m)).Perm (L.map (gS m)):=by
  have j:(DJ m L).Perm (L.map (HY m)):=Hx;refine(j.map (hS m)).trans ?_;rw[Lh];have:L.map (hS m∘HY m)=L.map (gS m):=Me λs hs=>by show (⟨CL m s.c,gv m s.l⟩:Stk)=⟨AV m s.c,gv m s.l⟩;rw[cv s hs]
  rw[this]
 have b:JC JT ((DJ m L).map (hS m)):=by have v:JC JT (DJ m L):=f8a (d:=AA.d) S.lt;unfold JC at v⊢;rw[Kw];exact v
 have F:∀s∈(DJ m L).map (hS m),(-4096<=s.c.x/\s.c.x<=4096)/\ -4096<=s.c.y/\s.c.y<=4096:=λs hs=>by obtain⟨t,o,rfl⟩:=Jx.1 hs;have:=S.vc t o;unfold vC at this;exact⟨this.1,this.2.1⟩
 have Y:=X.mv k (KR g).2.2 u (c7x b) F;have sk:CZ p (BE r m) ((DJ m L).map (hS m))=0:=by rw[sk_h];exact f
 have bo:=(YP sk).1;have pl:∀i,AR p i->AM p (BE r m) i=NZ m (AM p r) i:=(d5b X.hp Y.G Y.r0 λi H=>Y.vm4 (M3 _) H).2;have Z:=Y.cg pl;refine⟨n,g,e,Z,f2k sk e.1 (λs hs=> ?_) Z.N Z.D,sk,u,b⟩;have:=Z.cQ hs;unfold BH at this;exact⟨this.1,by show s.c.q<=255;omega⟩
theorem gv_gv(h:m'.t<4↔m.t<4)(l:List Int):gv m' (gv m l)=l:=by
 unfold gv;by_cases q:m.t<4
 .rw[Jf (h.2 q),Jf q]
 .rw[Jg (λk=>q (h.1 k)),Jg q,List.reverse_reverse]
theorem d2q(X:StG p r L (AM p r) B)(I:B<=4000)(_:CM m)(Y:MvG p r L m M)(vr:vM r)(k:vM m')(b:BE (BE r m) m'=r)(C:∀c,BH c->AV m' (AV m c)=c)(J:m'.t<4↔m.t<4):FU p (BE r m) M m'=0/\EH (BE r m) m'=r/\(DJ m' M).map (hS m')=L:=by
 have E:=KR vr;have t:=d8b Y.vr k (by rw[b];exact E.1) (by rw[b];exact E.2.1);rw[b]at t;have n:∀s∈M,vC s.c:=λs hs=>by have K:=Y.g.cB hs;have o:=Y.g.cQ hs;unfold BH at o;unfold vC;omega
 have v:∀s∈M,∃u∈L,s=gS m u:=λs hs=>by obtain⟨u,f,rfl⟩:=Jx.1 (Y.pm.mem_iff.1 hs);exact⟨u,f,rfl⟩
 have cv:∀s∈M,CL m' s.c=AV m' s.c:=λs hs=>Qt k (Vy (n s hs));have w:∀c,vC c->DQ c.x c.y c.q=0:=λc N=>by unfold vC at N;unfold DQ;rw[Jf E4]
 have F:GP m' M=0:=b8y k.2 (by
  rw[Jy];intro s hs;unfold NQ badC;rw[w _ (n s hs)];decide) λi O=>by
  have j:=CY (d:=AA.d) O;obtain⟨u,f,e⟩:=v _ j;have z:=w _ (n _ j);have G:=cv _ j;have P:AV m' (M.getD i AA.d).c=u.c:=by rw[e];exact C _ (X.cQ f)
  rw[P]at G;have K:=X.cB f;have o:=X.cQ f;unfold BH at o;have H:=w u.c Fw;rw[<-G]at H;unfold Tu GG;rw[Jf ⟨k.2,z⟩];exact Jf H
 have cM:=Y.g.cells;have Q:=(c7b F).2.2;have a:(M.map (HY m')).Perm (L.map (hS m)):=by
  have z:M.map (HY m')=M.map (λs=>⟨AV m' s.c,s.l⟩):=Me λs hs=>by show (⟨CL m' s.c,s.l⟩:Stk)=⟨AV m' s.c,s.l⟩;rw[cv s hs]
  rw[z];refine(Y.pm.map _).trans ?_;rw[Lh];have:L.map ((λs:Stk=>(⟨AV m' s.c,s.l⟩:Stk))∘gS m)=L.map (hS m):=Me λs hs=>by show (⟨AV m' (AV m s.c),gv m s.l⟩:Stk)=⟨s.c,gv m s.l⟩;rw[C _ (X.cQ hs)]
  rw[this]
 have A:JC JT (L.map (hS m)):=by have b:JC JT L:=f8a (d:=AA.d) X.lt;unfold JC at b⊢;rw[Kw];exact b
 have R:CK (M.map (HY m')):=by unfold CK;refine(((a.map (·.c)).nodup_iff).2 ?_);rw[Lh];exact X.cells
 have HI:DJ m' M=L.map (hS m):=by rw[Q];refine c4y _ _ (d24 R) A λx=> ?_;rw[(Xi (d:=AA.d) (lt:=AP) _).3.mem_iff,a.mem_iff]
 refine⟨f2v t.1 F ?_,t.2,?_⟩
 .rw[t.2,HI,sk_h];exact X.sk I
 .rw[HI,Lh];have:L.map (hS m'∘hS m)=L.map id:=Me λs hs=>by
   show (⟨s.c,gv m' (gv m s.l)⟩:Stk)=s;rw[gv_gv J]
  rw[this,List.map_id]
theorem mv_at(X:StG p r L (AM p r) B)(a:CM m)(Y:MvG p r L m M){s:Stk}(hs:s∈L):AX M (AV m s.c)=gv m s.l:=by have b:=b6g a (λs h=>X.cQ h) X.cells;rw[<-(b2c b Y.pm.symm (AV m s.c)).1,d6e a (X.cQ hs) L λt d=>X.cQ d,X.at_ hs]
theorem mv_far(X:StG p r L (AM p r) B)(hB:B<=4000)(a:CM m)(h:FU p r L m=0){s:Stk}(hs:s∈L):(-4096<=(AV m s.c).x/\(AV m s.c).x<=4096)/\ -4096<=(AV m s.c).y/\(AV m s.c).y<=4096:=by obtain⟨_,b,_⟩:=c8d h;obtain⟨d,f,_⟩:=c7b b;have hb:=X.cB hs;have g:=X.cQ hs;unfold BH at g;have e:CL m s.c=AV m s.c:=Qt ⟨a.1,d⟩ E4;have:=f8t (f s hs).2;rw[e]at this;exact⟨this.1,this.2.1⟩
theorem StG.vr(X:StG p r L P B)(a:B<=4000):vM r:=by have hN:=CQ X.hs;have:=(X.vm a (i:=0) ⟨M3 _,E4⟩).1;rw[X.r0]at this;exact this
theorem g0x(X:StG p r L (AM p r) B)(hB:B<=1000)(v:vM m)(hx: -2000<=m.x/\m.x<=2000)(hy: -2000<=m.y/\m.y<=2000):FU p r L m=0:=by
 have g:=KD v;have n:∀c,BH c->((-B<=c.x/\c.x<=B)/\ -B<=c.y/\c.y<=B)->((-3001<=(AV m c).x/\(AV m c).x<=3001)/\ -3001<=(AV m c).y/\(AV m c).y<=3001):=λc f C=>by
  have a:(AV m c).x=(sq m.t c.x c.y).1+m.x:=rfl;have E:(AV m c).y=(sq m.t c.x c.y).2+m.y:=rfl;have h3:(-1001<=(sq m.t c.x c.y).1/\(sq m.t c.x c.y).1<=1001)/\ -1001<=(sq m.t c.x c.y).2/\(sq m.t c.x c.y).2<=1001:=by
   unfold sq;repeat' split
   all_goals(dsimp only;omega)
  rw[a,E];omega
 have cv:∀s∈L,CL m s.c=AV m s.c:=λs hs=>by have hb:=X.cB hs;have f:=X.cQ hs;unfold BH at f;exact Qt v E4
 have j:∀c,BH c->((-3001<=c.x/\c.x<=3001)/\ -3001<=c.y/\c.y<=3001)->DQ c.x c.y c.q=0:=λc f C=>by unfold BH at f;unfold DQ;rw[Jf E4]
 have wide:∀s∈L,(-3001<=s.c.x/\s.c.x<=3001)/\ -3001<=s.c.y/\s.c.y<=3001:=λs hs=>by have:=X.cB hs;omega
 have o:GP m L=0:=b8y v.2 (by
  rw[Jy];intro s hs;unfold NQ badC;rw[j _ (X.cQ hs) (wide s hs)];decide) λi F=>by
  have hs:=CY (d:=AA.d) F;have u:=j _ (Pk g (X.cQ hs)) (n _ (X.cQ hs) (X.cB hs));rw[<-cv _ hs]at u;unfold Tu GG;rw[Jf ⟨v.2,j _ (X.cQ hs) (wide _ hs)⟩];exact Jf u
 obtain⟨_,_,b3⟩:=c7b o;have w:L.map (hS m∘HY m)=L.map (gS m):=Me λs hs=>by show (⟨CL m s.c,gv m s.l⟩:Stk)=⟨AV m s.c,gv m s.l⟩;rw[cv s hs]
 have z:((DJ m L).map (hS m)).Perm (L.map (gS m)):=by have G:(DJ m L).Perm (L.map (HY m)):=Hx;have:=G.map (hS m);rw[Lh,w]at this;exact this
 have H:CK (L.map (HY m)):=by have a:=b6g g (λs h=>X.cQ h) X.cells;unfold CK at a⊢;rw[<-w,Lh]at a;rw[Lh];exact a
 have b:JC JT (DJ m L):=by rw[b3];exact d24 H
 have k:JC JT ((DJ m L).map (hS m)):=by unfold JC at b⊢;rw[Kw];exact b
 have Y:=X.mv (B':=3001) g (KR v).2.2 z (c7x k) λs hs=>by obtain⟨t,A,rfl⟩:=Jx.1 (z.mem_iff.1 hs);exact n _ (X.cQ A) (X.cB A)
 have e:=KR (Y.vr E4);have t:=d8b (X.vr E4) v e.1 e.2.1;refine f2v t.1 o ?_;have:=Y.sk E4;rw[sk_h]at this;rw[t.2];exact this
end
theorem st_at{c:Cl}:∀(L:List Stk) (i:Nat),i<L.length->(∀j,j<i->(L.getD j AA.d).c≠c)->(L.getD i AA.d).c=c->AX L c=(L.getD i AA.d).l
 | [],i,h,_,_=>Ee
 |s::L,0,_,_,h=>by rw[KM];have a:s.c=c:=h;rw[Jf a];rfl
 |s::L,i+1,h,b,e=>by rw[KM];have a:s.c≠c:=b 0 E4;rw[Jg a,st_at L i Ea (λj q=>b (j+1) E4) e];rfl
theorem st_no{c:Cl}{L:List Stk}(h:∀j,j<L.length->(L.getD j AA.d).c≠c):AX L c=[]:=by refine Wm λb=> ?_;obtain⟨s,hs,e⟩:=Jx.1 b;obtain⟨j,a,f⟩:=K7.1 hs;refine h j a ?_;rw[Jd,Je a,f];exact e
def XL:AK
 | [x,.agg [.int .i64 X,.int .i64 Y,.int .u8 Q]]=>(IQ x).map λq=>(q.1,.sl 1 (AX q.2 ⟨X,Y,Q⟩).length (AC.row (AX q.2 ⟨X,Y,Q⟩)) none)
 |_=>none
def FLa25:Fam:=⟨List Stk×Int×Int×Int,λ(L,X,Y,Q)=>[FI L,.agg [.int .i64 X,.int .i64 Y,.int .u8 Q]],λ(L,_)=>ET L,λ(L,X,Y,Q)=>.sl 1 (AX L ⟨X,Y,Q⟩).length (AC.row (AX L ⟨X,Y,Q⟩)) none⟩
def ILa25:List Stk×Int×Int×Int->Nat->Option Inv
 |(L,X,Y,Q),2=>some {β:=Nat,ok:=λi=>i<=L.length/\∀j,j<i->(L.getD j AA.d).c≠⟨X,Y,Q⟩,st:=λi=>⟨[⟨5,none,.int .i64 i⟩,⟨3,none,.own 0 0⟩,⟨0,none,FI L⟩],[.cells 39 [.int .i64 X,.int .i64 Y,.int .u8 Q]]⟩,μ:=λi=>L.length-i}
 |_,_=>none
theorem pLa25:PS 19 XL:=by
 refine con [] E6 FLa25 ILa25 XL ?_ ?_ Tryz.func19 E5 E5 E5 ?_
 .intro args pre s h f;unfold XL at h;split at h
  .rename_i x X Y Q;simp only[Iq]at h;obtain⟨⟨q,L⟩,hx,rfl,rfl⟩:=h;obtain⟨v,w⟩:=LD hx f;exact⟨(L,X,Y,Q),⟨v,Ej,Ji⟩,w,rfl⟩
  .cases h
 .exact C3
 .rintro⟨L,X,Y,Q⟩ f;replace f:ET L:=f;have hL:=f.1;refine X0b _ ?_;(repeat' first|constructor|intro h)<;>refine Lm ?_
  all_goals(try(simp only[];omega))
  refine⟨(0:Nat),⟨Js _,λj t=>absurd t (K3 _)⟩,?_,?_⟩
  .exact X2a
  .intro i o;replace o:i<=L.length/\∀j,j<i->(L.getD j AA.d).c≠⟨X,Y,Q⟩:=o;obtain⟨i1,m⟩:=o;by_cases n:(L.getD i AA.d).c=⟨X,Y,Q⟩
   .have u:=n;generalize r:(L.getD i AA.d).c=g at u;subst u;have e1:(L.getD i AA.d).c.x=X:=by rw[r]
    have e2:(L.getD i AA.d).c.y=Y:=by rw[r]
    have e3:(L.getD i AA.d).c.q=Q:=by rw[r]
    refine X0b _ ?_;(repeat' first|constructor|intro h)<;>refine Lm ?_
    all_goals(try simp only[In,It,N4]at*)
    all_goals(try first
     |exact Ay)
    all_goals first
     |(have k:i<L.length:=by omega
       rw[st_at L i k m n];first|done|exact B7)
     |(have k:i=L.length:=by omega
       rw[st_no (by rw[<-k];exact m)];first|done|rfl|trivial)
     |skip
   .have ba:¬((L.getD i AA.d).c.x=X/\(L.getD i AA.d).c.y=Y/\(L.getD i AA.d).c.q=Q):=λq=>n (by
     generalize (L.getD i AA.d).c=g at*;obtain⟨a,b,c⟩:=g;obtain⟨rfl,rfl,rfl⟩:=q;rfl)
    refine X0b _ ?_;(repeat' first|constructor|intro h)<;>refine Lm ?_
    all_goals(try simp only[In,It,N4]at*)
    all_goals(try first
     |exact Ay)
    all_goals first
     |(have k:i=L.length:=by omega
       rw[st_no (by rw[<-k];exact m)];first|done|rfl|trivial)
     |(refine⟨i+1,⟨Ei,λj t=> ?_⟩,Ef,?_⟩
       .by_cases e:j=i
        .subst e;exact n
        .exact m j E4
       .refine X0b _ ?_;(repeat' first|constructor|intro h)<;>refine Lm ?_
        all_goals first|exact B7|skip)
     |skip
def kDif:AK
 | [x,y]=>match Fo x,Fo y with
   |some (q,p,r,L),some (a,b,c,d)=>some ((q/\a)/\b=p/\c=r/\d=L,.int .i64 0)
   |_,_=>none
 |_=>none
def FDif:Fam:=⟨Pt×Mv×List Stk,λ(p,r,L)=>[.agg (BD p r L),.agg (BD p r L)],λ(p,r,L)=>prOK p r/\EV L,λ_=>.int .i64 0⟩
def g08(a:List Entry):List Entry:=a++[⟨5,none,.int .i64 0⟩,⟨3,none,.own 1 0⟩,⟨2,none,.own 0 0⟩]
def g12(p:Pt)(r:Mv)(L:List Stk)(a:List Blk):List Blk:=[.cells 34 (BD p r L),.cells 34 (BD p r L)]++a
def IDif:Pt×Mv×List Stk->Nat->Option Inv
 |(p,r,L),7=>some {β:=Nat,ok:=λi=>i<=p.l.length,st:=λi=>⟨g08 [⟨6,none,.int .i64 i⟩],g12 p r L []⟩,μ:=λi=>p.l.length-i}
 |(p,r,L),12=>some {β:=Nat,ok:=λi=>i<=L.length,st:=λi=>⟨g08 [⟨7,none,.int .i64 i⟩],g12 p r L []⟩,μ:=λi=>L.length-i,sub:=λi=>some fun
  |18=>some {β:=Nat,ok:=λk=>i<L.length/\k<=(L.getD i AA.d).l.length,st:=λk=>⟨g08 [⟨10,none,.int .i64 k⟩,⟨9,none,.own 3 0⟩,⟨8,none,.own 2 0⟩,⟨7,none,.int .i64 i⟩],g12 p r L [.cells CI (AA.sv (L.getD i AA.d)),.cells CI (AA.sv (L.getD i AA.d))]⟩,μ:=λk=>(L.getD i AA.d).l.length-k}
  |_=>none}
 |_,_=>none
theorem pDif:PS 22 kDif:=by
 refine con [] E6 FDif IDif kDif ?_ ?_ Tryz.func22 E5 E5 E5 ?_
 .intro args pre s h f;unfold kDif at h;split at h
  .split at h
   .rename_i q p r L q' g j m hx n;cases h;obtain⟨⟨o,u⟩,rfl,rfl,rfl⟩:=f;obtain⟨v,w,x⟩:=Ll hx o;obtain⟨y,_,_⟩:=Ll n u;exact⟨(g,j,m),⟨v,y,Ji⟩,⟨w,x⟩,rfl⟩
   .cases h
  .cases h
 .exact C3
 .rintro⟨p,r,L⟩ ⟨z,A⟩;have hl:=z.1.1;have e:=A.1;have hLn:L.length<=100000:=e.1;have B:∀i,(L.getD i AA.d).l.length<=100000:=λi=>Pp e i;refine X0b _ ?_;(repeat' first|constructor|intro h)<;>refine Lm ?_
  all_goals(try first
   |(exfalso;simp at h;done)
   |(exfalso;have C:=‹(!(decide (r.t=r.t)&&_))=true›;simp at C;done)
   |exact As)
  refine⟨(0:Nat),Js _,?_,?_⟩
  .exact X2a
  .intro i b;replace b:i<=p.l.length:=b;refine X0b _ ?_;(repeat' first|constructor|intro h)<;>refine Lm ?_
   all_goals(try simp only[In]at*)
   all_goals(try first
    |(exfalso;simp at h;done)
    |exact Ay)
   .refine⟨i+1,Ei,Ef,?_⟩;exact X2b
   .refine⟨(0:Nat),Js _,?_,?_⟩
    .exact X2a
    .intro i b;replace b:i<=L.length:=b;refine X0b _ ?_;(repeat' first|constructor|intro h)<;>refine Lm ?_
     all_goals(try simp only[In]at*)
     all_goals(try first
      |(exfalso;simp at h;done)
      |exact Ay)
     all_goals first
      |(refine⟨(0:Nat),⟨E4,Js _⟩,?_,?_⟩
        .exact X2a
        .intro k c;replace c:i<L.length/\k<=(L.getD i AA.d).l.length:=c;have zb:=B i;refine X0b _ ?_;(repeat' first|constructor|intro h)<;>refine Lm ?_
         all_goals(try simp only[In]at*)
         all_goals(try first
          |(exfalso;simp at h;done)
          |exact Ay)
         all_goals first
          |(refine⟨k+1,⟨c.1,E4⟩,Ff,?_⟩
            all_goals refine X0b _ ?_;(repeat' first|constructor|intro h)<;>refine Lm ?_
            all_goals first|exact Aq|skip)
          |(refine⟨i+1,Ei,Ef,?_⟩
            all_goals refine X0b _ ?_;(repeat' first|constructor|intro h)<;>refine Lm ?_
            all_goals first|exact Aq|skip)
          |skip)
      |skip
def PA(t:Int):Int:=numM (tA t) (tC t) (tB t) (tD t)
def Pf(t x y:Int):Int:=tA t* -x+tC t* -y
def Pg(t x y:Int):Int:=tB t* -x+tD t* -y
def Ml(t x y:Int):Int:=if CB t x y=0 then KL (PA t) (Pf t x y) (Pg t x y)else 1
theorem ivT_le{t:Int}(a:0<=t)(h1:t<8):0<=PA t/\PA t<8:=by have:∀q:Nat,q<8->0<=PA q/\PA q<8:=Ft;have:=this t.toNat E4;rwa[Mc a]at this
theorem iv_le{t x y B:Int}(a:0<=t)(b:t<8)(a1: -B<=x)(a2:x<=B)(b1: -B<=y)(b2:y<=B): -(2*B)<=Pf t x y/\Pf t x y<=2*B/\ -(2*B)<=Pg t x y/\Pg t x y<=2*B:=by obtain⟨c,d,e,f⟩:=Vn a b;have e1:=Ox (x:= -x) c;have e2:=Ox (x:= -y) e;have e3:=Ox (x:= -x) d;have e4:=Ox (x:= -y) f;unfold Pf Pg;omega
def d3g:AK
 | [.agg [.int .u8 t,.int .i64 x,.int .i64 y]]=>some (0<=t/\t<=255,.tup [.agg [.int .u8 (keep (Ml t x y) (PA t)),.int .i64 (keep (Ml t x y) (Pf t x y)),.int .i64 (keep (Ml t x y) (Pg t x y))],.int .i64 (Ml t x y)])
 |_=>none
def f3f:Fam:=⟨Int×Int×Int,λ(t,x,y)=>[.agg [.int .u8 t,.int .i64 x,.int .i64 y]],λ(t,_,_)=>0<=t/\t<=255,λ(t,x,y)=>.tup [.agg [.int .u8 (keep (Ml t x y) (PA t)),.int .i64 (keep (Ml t x y) (Pf t x y)),.int .i64 (keep (Ml t x y) (Pg t x y))],.int .i64 (Ml t x y)]⟩
theorem pMvInv:PS 21 d3g:=by
 refine con [(17,OI),(52,TE),(54,YK),(53,Xl)] (by simpa using⟨QO,c7a,d3b,c7w⟩) f3f (λ_ _=>none) d3g ?_ ?_ Tryz.func21 E5 E5 E5 ?_
 .intro args pre s h a;unfold d3g at h;split at h
  .rename_i t x y;cases h;exact⟨(t,x,y),by simp[f3f,BN,SV.le2,SV.le1,BJ,SV.le0],a,rfl⟩
  .cases h
 .exact C4
 .rintro⟨t,x,y⟩ a;replace a:0<=t/\t<=255:=a;refine X0a _ ?_;(repeat' first|constructor|intro h)<;>refine Lm ?_
  all_goals(first
   |exact a
   |(have e:Ml t x y=1:=by grind[Ml]
     simp[keep,e];done)
   |(have f:CB t x y=0:=by simpa using h
     have d:=Pz f;have r:=iv_le (t:=t) (x:=x) (y:=y) (B:=16384) a.1 d.1 E4 E4 E4 E4;have c:=ivT_le a.1 d.1;have b:=Vn a.1 d.1;first
     |(constructor<;>omega)
     |exact A9
     |exact⟨b.1,b.2.2.1,b.2.1,b.2.2.2,E4,E4,E4,E4⟩
     |(refine⟨c.1,?_⟩;change PA t<=255;omega)
     |(have e:Ml t x y=KL (PA t) (Pf t x y) (Pg t x y):=by unfold Ml;rw[if_pos f]
       first|exact e.symm|(rw[e];rfl)))
   |skip)
def Eo(p:Pt)(r:Mv)(L:List Stk)(k C:Int):Int:=if¬FE p r L=0 then FE p r L else if¬DV k C=0 then 1 else FU p r L (DT k C)
def NE(L:List Stk)(k C:Int):List Stk:=(DJ (DT k C) L).map Fl
def Ta(p:Pt)(r:Mv)(L:List Stk)(k C:Int):SV:=.tup [.agg (BD (zP (Eo p r L k C) p) (zR (Eo p r L k C) (EH r (DT k C))) (zL (Eo p r L k C) (NE L k C))),.int .i64 (Eo p r L k C)]
def kFlp:AK
 | [x,.agg [.int .u8 k,.int .i64 C]]=>(Fo x).map λq=>(q.1,Ta q.2.1 q.2.2.1 q.2.2.2 k C)
 |_=>none
def FFlp:Fam:=⟨(Pt×Mv×List Stk)×Int×Int,λ((p,r,L),k,C)=>[.agg (BD p r L),.agg [.int .u8 k,.int .i64 C]],λ((p,r,L),_)=>prOK p r/\EV L,λ((p,r,L),k,C)=>Ta p r L k C⟩
theorem f3s{p:Pt}{r m:Mv}{L:List Stk}(h:EV L)(a:FU p r L m=0):EV (DJ m L):=by
 unfold FU at a;split at a
 .cases a
 .exact mv_in h E4
theorem mvd_z{p:Pt}{r m:Mv}{L:List Stk}(h:EV L):ET (zL (FU p r L m) (DJ m L)):=by
 unfold zL;split
 .exact(f3s h E8).1
 .exact D7
theorem pFlp:PS 23 kFlp:=by
 refine con [(12,PC),(55,d6c),(46,XD),(56,c5z)] (by simpa using⟨Uk,pMvOf,pMvd,pStRev⟩) FFlp (λ_ _=>none) kFlp ?_ ?_ Tryz.func23 E5 E5 E5 ?_
 .intro args pre s h f;unfold kFlp at h;split at h
  .rename_i x k C;simp only[Iq]at h;obtain⟨⟨q,p,r,L⟩,hx,rfl,rfl⟩:=h;obtain⟨g,j,l⟩:=Ll hx f;exact⟨((p,r,L),k,C),⟨g,Ej,Ji⟩,⟨j,l⟩,rfl⟩
  .cases h
 .exact C3
 .rintro⟨⟨p,r,L⟩,k,C⟩ ⟨m,d⟩;have e:=Ty m d;have b:=d6q k C;have n:=@mvd_z p r (DT k C) L d;refine X0a _ ?_;(repeat' first|constructor|intro h)<;>refine Lm ?_
  all_goals(try simp only[show (⟨keep (DV k C) (Oi k),keep (DV k C) (RB k C),keep (DV k C) (Rf k C)⟩:Mv)=DT k C from rfl,RT.lst_row,CR,QJ,Qb,Ip,Iv]at*)
  all_goals(try first
   |exact e
   |exact⟨e,b⟩
   |exact b
   |exact λ_=>b
   |omega)
  all_goals first
   |exact d3x n
   |(have a:Eo p r L k C=FE p r L:=by
      unfold Eo;rw[Jf E8]
     simp only[zP,zR,zL,a,Jg ‹¬ FE p r L=0›];all_goals first|exact Az)
   |(have a:Eo p r L k C=1:=by
      unfold Eo;rw[Jg (λq=>q ‹FE p r L=0›),Jf E8]
     simp only[zP,zR,zL,a];all_goals first|exact Az)
   |(have a:Eo p r L k C=FU p r L (DT k C):=by
      unfold Eo;rw[Jg (λq=>q ‹FE p r L=0›),Jg (λq=>q ‹DV k C=0›)]
     first
      |(have c:¬FU p r L (DT k C)=0:=by assumption
        simp only[zP,zR,zL,a,Jg c];all_goals first|exact Az)
      |(have c:FU p r L (DT k C)=0:=by assumption
        simp only[zP,zR,zL,a,c,Kt,NE];all_goals first|exact A5))
   |skip
end Go.Proofs.YtaihldljnlgnoaaGreatDoor.V
