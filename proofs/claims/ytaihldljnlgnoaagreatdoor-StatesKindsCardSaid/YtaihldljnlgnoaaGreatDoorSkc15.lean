/-
  Parts of the proof: A33 A34 A35 A43 C31 A45 C22 A46 C17 A44 A36 A29 A37 A40. Conditions: none.
-/
import Derived.Test.YtaihldljnlgnoaaGreatDoorSkc7
import Derived.Test.YtaihldljnlgnoaaGreatDoorSkc8
import Derived.Test.YtaihldljnlgnoaaGreatDoorSkc9
import Derived.Test.YtaihldljnlgnoaaGreatDoorSkc10
import Derived.Test.YtaihldljnlgnoaaGreatDoorSkc14
set_option maxRecDepth 100000
set_option maxHeartbeats 40000000
namespace Go.Proofs.YtaihldljnlgnoaaGreatDoor.V
open Go
theorem pSym:∀F,HS 198 (SM F)
 |0=>by
  refine⟨⟨_,Tryz.func198,Dy,Dy⟩,λA w args vals own μ r _ _ _ _ _ h a=> ?_⟩;unfold SM at h;split at h
  .split at h
   .cases h;obtain⟨p1,p2,p3,p4,p5,p6,p7,p8⟩:=a;exfalso;omega
   .cases h
  .cases h
 |F+1=>pSym1 F (pSym F)
def f9h:HK:=λa own=>match own with
 |.row T b n g c::o=>SM n a (.row T b n g c::o)
 |_=>none
theorem pSymN:HS 198 f9h:=by
 refine⟨(pSym 0).1,λA w a b own c r d e f g i h j=> ?_⟩;unfold f9h at h;split at h
 .exact(pSym _).2 A w a b _ c r d e f g i h j
 .cases h
section
variable{α:Type}{d:α}{lt:α->α->Bool}
theorem f6k{n f a:Nat}{L:List α}(h:a+20<=n):NQ d lt n (f+1) a L=NQ d lt n f (a+20) (Fo d lt a (a+20) L):=by rw[NQ,J7 h]
theorem d1t{n f a:Nat}{L:List α}(h:¬a+20<=n):NQ d lt n f a L=Fo d lt a n L:=by
 cases f with
 |zero=>rfl
 |succ f=>rw[NQ,J8 h]
theorem f6c{n b f a:Nat}{L:List α}(h:a+2*b<=n):KU d lt n b (f+1) a L=KU d lt n b f (a+2*b) (EL d lt n a (a+b) (a+2*b) L):=by rw[KU,J7 h]
theorem d3w{n b f a:Nat}{L:List α}(h:¬a+2*b<=n)(k:a+b<n):KU d lt n b f a L=EL d lt n a (a+b) n L:=by
 cases f with
 |zero=>rw[KU,J7 k]
 |succ f=>rw[KU,J8 h,J7 k]
theorem d5i{n b f a:Nat}{L:List α}(h:¬a+2*b<=n)(k:¬a+b<n):KU d lt n b f a L=L:=by
 cases f with
 |zero=>rw[KU,J8 k]
 |succ f=>rw[KU,J8 h,J8 k]
theorem f7h{n f a:Nat}{L:List α}(h:a<n):NM d lt n (f+1) a L=NM d lt n f (2*a) (KU d lt n a n 0 L):=by rw[NM,J7 h]
theorem d1z{n f a:Nat}{L:List α}(h:¬a<n):NM d lt n f a L=L:=by
 cases f with
 |zero=>rfl
 |succ f=>rw[NM,J8 h]
end
def hStb:HK:=λa own=>match a,own with
 | [.osl 0,.int .i64 k,.clo f []],[.row T 4 n g _]=>if T=CG/\f=125 then some ⟨AA.isL n g/\n<=100000/\k=n/\(∀s∈AA.lst n g,AD .u8 s.c.q),.tup [],[.row CG 4 (AA.lst n g).length (AA.row (OY AA.d AW (AA.lst n g))) none],[]⟩else none
 |_,_=>none
def FStb:FamH:=⟨List Stk,λ(l:List Stk)=>[.osl 0,.int .i64 (l.length:Int),.clo 125 []],λ(l:List Stk)=>[.row CG 4 l.length (AA.row l) none],λ(l:List Stk)=>l.length<=100000/\∀s∈l,AD .u8 s.c.q,λ_=>.tup [],λ(l:List Stk)=>[.row CG 4 l.length (AA.row (OY AA.d AW l)) none],[]⟩
def IStb:List Stk->Nat->Option Inv
 |l,2=>some {β:=Nat×Nat×List Stk,ok:=λ(f,a,L)=>Sub L l/\a<=l.length/\l.length-a<=f/\NQ AA.d AW l.length f a L=NQ AA.d AW l.length l.length 0 l,st:=λ(_,a,L)=>⟨[⟨8,none,.int .i64 ((a:Int)+20)⟩,⟨7,none,.int .i64 a⟩,⟨6,none,.int .i64 20⟩,⟨2,none,.clo 125 []⟩,⟨1,none,.int .i64 (l.length:Int)⟩,⟨0,none,.osl 0⟩],[.row CG 4 l.length (AA.row L) none]⟩,μ:=λ(f,_)=>f}
 |l,7=>some {β:=Nat×Nat×List Stk,ok:=λ(f,b,L)=>Sub L l/\20<=b/\b<=2*l.length+40/\l.length<=b+f/\NM AA.d AW l.length f b L=OY AA.d AW l,st:=λ(_,b,L)=>⟨[⟨6,none,.int .i64 b⟩,⟨2,none,.clo 125 []⟩,⟨1,none,.int .i64 (l.length:Int)⟩,⟨0,none,.osl 0⟩],[.row CG 4 l.length (AA.row L) none]⟩,μ:=λ(f,_)=>f,sub:=λ(f,b,_)=>some fun
  |9=>some {β:=Nat×Nat×List Stk,ok:=λ(g,a,M)=>Sub M l/\a<=l.length/\l.length-a<=g/\b<l.length/\NM AA.d AW l.length (f-1) (2*b) (KU AA.d AW l.length b g a M)=OY AA.d AW l,st:=λ(_,a,M)=>⟨[⟨8,none,.int .i64 ((a:Int)+2*b)⟩,⟨7,none,.int .i64 a⟩,⟨6,none,.int .i64 b⟩,⟨2,none,.clo 125 []⟩,⟨1,none,.int .i64 (l.length:Int)⟩,⟨0,none,.osl 0⟩],[.row CG 4 l.length (AA.row M) none]⟩,μ:=λ(g,_)=>g}
  |_=>none}
 |_,_=>none
theorem pStb:HS 167 hStb:=by
 refine FU {h:=[(198,f9h),(170,hIns)]} ⟨Dz,Dz,by simpa using⟨pSymN,pIns⟩⟩ FStb IStb hStb ?_ ?_ ?_ Tryz.func167 Dy Dy Dy ?_
 .intro args own r h x;unfold hStb at h;split at h
  .rename_i k f T n g c;split at h
   .rename_i F;obtain⟨rfl,rfl⟩:=F;cases h;obtain⟨G,p2,p3,H⟩:=x;have hl:=RT.lst_length AA n g;exact⟨AA.lst n g,⟨E6,Ek,E6,Ja⟩,rfl,WK G,⟨Dx,H⟩,rfl,rfl,rfl⟩
   .cases h
  .cases h
 .exact Bz
 .exact C3
 .rintro(l:List Stk) μ x;replace x:l.length<=100000/\∀s∈l,AD .u8 s.c.q:=x;obtain⟨h0,h5⟩:=x;have o:∀L:List Stk,L.length=l.length->AA.lst l.length (AA.row L)=L:=λL e=>by rw[<-e];exact RT.lst_row _ _
  have qk:∀L:List Stk,L.length=l.length->AA.isL l.length (AA.row L):=λL e=>by rw[<-e];exact AA.isL_row L
  refine X0a _ ?_;(repeat' first|constructor|intro h)<;>refine Lm ?_
  all_goals(try simp only[]at*)
  all_goals(try first
   |exact Aj)
  refine⟨(l.length,0,l),⟨Sub.refl l,Jj _,by show l.length-0<=l.length;omega,rfl⟩,?_,?_⟩
  .exact X3c
  .rintro⟨f,a,L⟩ u;replace u:Sub L l/\a<=l.length/\l.length-a<=f/\NQ AA.d AW l.length f a L=NQ AA.d AW l.length l.length 0 l:=u;obtain⟨k1,k2,k3,k4⟩:=u;have y:=k1.1;have t:((a:Int)+20).toNat=a+20:=Dx;by_cases v:a+20<=l.length
   .obtain⟨f,rfl⟩:∃B,f=B+1:=⟨f-1,Dx⟩
    rw[f6k v]at k4;have z:=(WP (d:=AA.d) (lt:=AW) (a:=a) (b:=a+20) (l:=L) Dx).trans k1;refine X0b _ ?_;(repeat' first|constructor|intro h)<;>refine Lm ?_
    all_goals(try simp only[If,t,o,k1.1]at*)
    all_goals(try first
     |exact Bi)
    refine⟨(f,a+20,Fo AA.d AW a (a+20) L),⟨z,v,by show l.length-(a+20)<=f;omega,k4⟩,Ee,?_⟩;all_goals exact X3d
   .rw[d1t v]at k4;have z:=(WP (d:=AA.d) (lt:=AW) (a:=a) (b:=l.length) (l:=L) Dx).trans k1;refine X0b _ ?_;(repeat' first|constructor|intro h)<;>refine Lm ?_
    all_goals(try simp only[If,t,o,k1.1]at*)
    all_goals(try first
     |exact Bi)
    refine⟨(l.length,20,Fo AA.d AW a l.length L),⟨z,Jf _,by show 20<=2*l.length+40;omega,by show l.length<=20+l.length;omega,by show NM AA.d AW l.length l.length 20 (Fo AA.d AW a l.length L)=_;rw[k4];rfl⟩,?_,?_⟩
    .exact X3d
    .clear k1 k2 k3 k4 y z t v;rintro⟨f,j,L⟩ u;replace u:Sub L l/\20<=j/\j<=2*l.length+40/\l.length<=j+f/\NM AA.d AW l.length f j L=OY AA.d AW l:=u;obtain⟨k1,k2,k3,k4,k5⟩:=u;have y:=k1.1;by_cases A:j<l.length
     .obtain⟨f,rfl⟩:∃B,f=B+1:=⟨f-1,Dx⟩
      rw[f7h A]at k5;refine X0b _ ?_;(repeat' first|constructor|intro h)<;>refine Lm ?_
      all_goals(try simp only[If,k1.1]at*)
      all_goals(try first
       |exact Aj)
      refine⟨(l.length,0,L),⟨k1,Jj _,by show l.length-0<=l.length;omega,A,k5⟩,?_,?_⟩
      .exact X3c
      .clear k1 k5 y;rintro⟨g,a,L⟩ u;replace u:Sub L l/\a<=l.length/\l.length-a<=g/\j<l.length/\NM AA.d AW l.length f (2*j) (KU AA.d AW l.length j g a L)=OY AA.d AW l:=u;obtain⟨k1,k6,k7,k8,k9⟩:=u;have y:=k1.1;have t:((a:Int)+j).toNat=a+j:=Dx;have w:((a:Int)+2*j).toNat=a+2*j:=Dx;by_cases v:a+2*j<=l.length
       .obtain⟨g,rfl⟩:∃I,g=I+1:=⟨g-1,Dx⟩
        rw[f6c v]at k9;have C:=(LV (d:=AA.d) (lt:=AW) l.length a (a+j) (a+2*j) L Dx Dx Dx).trans k1;refine X0b _ ?_;(repeat' first|constructor|intro h)<;>refine Lm ?_
        all_goals(try simp only[If,t,w,o,k1.1]at*)
        all_goals(try first
         |exact Au)
        refine⟨(g,a+2*j,EL AA.d AW l.length a (a+j) (a+2*j) L),⟨C,v,by show l.length-(a+2*j)<=g;omega,A,k9⟩,by show g<g+1;omega,?_⟩;all_goals exact X3e
       .by_cases E:a+j<l.length
        .rw[d3w v E]at k9;have C:=(LV (d:=AA.d) (lt:=AW) l.length a (a+j) l.length L Dx Dx Dx).trans k1;refine X0b _ ?_;(repeat' first|constructor|intro h)<;>refine Lm ?_
         all_goals(try simp only[If,t,w,o,k1.1]at*)
         all_goals(try first
          |exact Au)
         refine⟨(f,2*j,EL AA.d AW l.length a (a+j) l.length L),⟨C,by show 20<=2*j;omega,by show 2*j<=_;omega,by show l.length<=2*j+f;omega,k9⟩,Ee,?_⟩;all_goals exact X3e
        .rw[d5i v E]at k9;refine X0b _ ?_;(repeat' first|constructor|intro h)<;>refine Lm ?_
         all_goals(try simp only[If,t,w,o,k1.1]at*)
         all_goals(try first
          |exact Au)
         refine⟨(f,2*j,L),⟨k1,by show 20<=2*j;omega,by show 2*j<=_;omega,by show l.length<=2*j+f;omega,k9⟩,Ee,?_⟩;all_goals exact X3e
     .rw[d1z A]at k5;refine X0b _ ?_;(repeat' first|constructor|intro h)<;>refine Lm ?_
      all_goals(try simp only[If,k1.1]at*)
      all_goals(try first
       |exact Aj
       |(intro _ _;left;rw[<-k5];done))
def c0d:HK:=λa own=>match a,own with
 | [.osl 0,.clo f []],[.row T 4 n g _]=>if T=CG/\f=125 then some ⟨AA.isL n g/\n<=100000/\(∀s∈AA.lst n g,AD .u8 s.c.q),.tup [],[.row CG 4 (AA.lst n g).length (AA.row (OY AA.d AW (AA.lst n g))) none],[]⟩else none
 |_,_=>none
def f92:FamH:=⟨List Stk,λ_=>[.osl 0,.clo 125 []],λ(l:List Stk)=>[.row CG 4 l.length (AA.row l) none],λ(l:List Stk)=>l.length<=100000/\∀s∈l,AD .u8 s.c.q,λ_=>.tup [],λ(l:List Stk)=>[.row CG 4 l.length (AA.row (OY AA.d AW l)) none],[]⟩
theorem f6t:HS 124 c0d:=by
 refine FU {h:=[(167,hStb)]} ⟨Dz,Dz,by simpa using pStb⟩ f92 (λ_ _=>none) c0d ?_ ?_ ?_ Tryz.func124 Dy Dy Dy ?_
 .intro args own r h a;unfold c0d at h;split at h
  .rename_i f T n g c;split at h
   .rename_i j;obtain⟨rfl,rfl⟩:=j;cases h;obtain⟨k,p2,m⟩:=a;have hl:=RT.lst_length AA n g;exact⟨AA.lst n g,⟨E6,E6,Ja⟩,rfl,WK k,⟨Dx,m⟩,rfl,rfl,rfl⟩
   .cases h
  .cases h
 .exact Bx
 .exact C3
 .rintro(l:List Stk) μ a;replace a:l.length<=100000/\∀s∈l,AD .u8 s.c.q:=a;obtain⟨b,d⟩:=a;have o:AA.lst l.length (AA.row l)=l:=RT.lst_row _ _;have e:AA.isL l.length (AA.row l):=AA.isL_row l;refine X0a _ ?_;(repeat' first|constructor|intro h)<;>refine Lm ?_
  all_goals(try simp only[o])
  all_goals first
   |exact⟨e,b,Ja,d⟩
   |exact⟨e,b,rfl,d⟩
   |exact λ_ _=>Ja
   |exact Ay
   |exact A4
   |skip
def Sc(P:Stk->Bool)(l:List Stk):Int:=match l.findIdx? P with
 |some i=>i
 |none=> -1
theorem f15{P:Stk->Bool}{l:List Stk}{i:Nat}(hi:i<l.length)(h:∀j,j<i->P (l.getD j AA.d)=false)(a:P (l.getD i AA.d)=true):Sc P l=i:=by
 have:l.findIdx? P=some i:=by
  rw[L1];refine⟨hi,?_,λj b=> ?_⟩
  .simpa[J5,hi]using a
  .have:=h j b;have c:j<l.length:=Dx;simpa[J5,c]using this
 simp[Sc,this]
theorem d4p{P:Stk->Bool}{l:List Stk}(h:∀j,j<l.length->P (l.getD j AA.d)=false):Sc P l= -1:=by
 have:l.findIdx? P=none:=by rw[Lg];intro x hx;obtain⟨j,a,rfl⟩:=K7.1 hx;have:=h j a;simpa[J5,a]using this
 simp[Sc,this]
theorem f0h(P:Stk->Bool)(l:List Stk):decide (0<=Sc P l)=l.any P:=by
 unfold Sc;cases h:l.findIdx? P with
 |none=>
  have:=Lg.1 h;have:l.any P=false:=by rw[Jx];intro x hx;simpa using this x hx
  rw[this];rfl
 |some i=>
  have:=L1.1 h;obtain⟨a,b,_⟩:=this;have:l.any P=true:=Jp.2 ⟨_,Kb a,b⟩;rw[this];simp
def badC(a b c:Int):Bool:= !decide (EC a b c=0)
def Ow(s:Stk):Bool:=badC s.c.x s.c.y s.c.q
def kMv1:AK
 | [.agg [.int .i64 a,.int .i64 b,.int .u8 c,x]]=>match AC.as x with
   |some u=>some (AC.isL u.1 u.2,.bool (badC a b c))
   |none=>none
 |_=>none
def FMv1:Fam:=⟨Stk,λs=>[.agg [.int .i64 s.c.x,.int .i64 s.c.y,.int .u8 s.c.q,.sl 1 s.l.length (AC.row s.l) none]],λ_=>True,λs=>.bool (Ow s)⟩
theorem pMv1:PS 122 kMv1:=by
 refine con [(123,Qm)] (by simpa using Uk) FMv1 (λ_ _=>none) kMv1 ?_ ?_ Tryz.func122 Dy Dy Dy ?_
 .intro args pre s h d;unfold kMv1 at h;split at h
  .rename_i a b c x;split at h
   .rename_i u e;cases h;refine⟨⟨⟨a,b,c⟩,AC.lst u.1 u.2⟩,⟨⟨E3,E3,E3,AC.as_leL e d,Ja⟩,Ja⟩,Ja,rfl⟩
   .cases h
  .cases h
 .exact By
 .rintro(s:Stk) d;refine X0a _ ?_;(repeat' first|constructor|intro h)<;>refine Lm ?_
  all_goals(first
   |exact Ja
   |rfl
   |skip)
def c5f:AK
 | [x,.clo g []]=>if g=122 then(LI x).map λq=>(q.1,.int .i64 (Sc Ow q.2))else none
 |_=>none
def FIdxFS:Fam:=⟨List Stk,λL=>[FN L,.clo 122 []],λL=>FX L,λL=>.int .i64 (Sc Ow L)⟩
def IIdxFS:List Stk->Nat->Option Inv
 |l,2=>some {β:=Nat,ok:=λi=>i<=l.length/\∀j,j<i->Ow (l.getD j AA.d)=false,st:=λi=>⟨[⟨8,none,.int .i64 i⟩,⟨7,none,.int .i64 l.length⟩,⟨1,none,.clo 122 []⟩,⟨0,none,FN l⟩],[]⟩,μ:=λi=>l.length-i}
 |_,_=>none
theorem pIdxFS:PS 166 c5f:=by
 refine con [(122,kMv1)] (by simpa using pMv1) FIdxFS IIdxFS c5f ?_ ?_ Tryz.func166 Dy Dy Dy ?_
 .intro args pre s h a;unfold c5f at h;split at h
  .split at h
   .rename_i g;subst g;simp only[Ih]at h;obtain⟨⟨q,L⟩,hx,rfl,rfl⟩:=h;obtain⟨h1,h2⟩:=Py hx a;exact Dw
   .cases h
  .cases h
 .exact Bx
 .rintro(l:List Stk) a;replace a:FX l:=a;have hl:l.length<=100000:=a.1;refine X0a _ ?_;(repeat' first|constructor|intro h)<;>refine Lm ?_
  refine⟨(0:Nat),⟨Jj _,λj d=>Dx⟩,?_,?_⟩
  .refine X0a _ ?_;(repeat' first|constructor|intro h)<;>refine Lm ?_
   all_goals first|exact A6|exact A5|skip
  .intro i k;obtain⟨f,c⟩:=k;replace f:i<=l.length:=f;refine X0a _ ?_;(repeat' first|constructor|intro h)<;>refine Lm ?_
   all_goals(try simp only[If]at*)
   all_goals(try first
    |exact Ak
    |exact AC.isL_row _
    |exact λ_=>AC.isL_row _
    |exact(f15 Dx c E2).symm
    |exact(d4p λj d=>c j Dx).symm
    |exact An)
   refine⟨i+1,⟨by show i+1<=l.length;omega,λj d=> ?_⟩,Ea,?_⟩
   .by_cases e:j<i
    .exact c j e
    .have:j=i:=Dx;subst this;assumption
   .refine X0a _ ?_;(repeat' first|constructor|intro h)<;>refine Lm ?_
    all_goals first|omega|exact A6|exact A5|skip
def c5t:AK
 | [x,.clo g []]=>if g=122 then(LI x).map λq=>(q.1,.bool (q.2.any Ow))else none
 |_=>none
def FCntFS:Fam:=⟨List Stk,λL=>[FN L,.clo 122 []],λL=>FX L,λL=>.bool (L.any Ow)⟩
theorem pCntFS:PS 121 c5t:=by
 refine con [(166,c5f)] (by simpa using pIdxFS) FCntFS (λ_ _=>none) c5t ?_ ?_ Tryz.func121 Dy Dy Dy ?_
 .intro args pre s h a;unfold c5t at h;split at h
  .split at h
   .rename_i b;subst b;simp only[Ih]at h;obtain⟨⟨q,L⟩,hx,rfl,rfl⟩:=h;obtain⟨h1,h2⟩:=Py hx a;exact Dw
   .cases h
  .cases h
 .exact Bx
 .rintro(l:List Stk) a;replace a:FX l:=a;refine X0a _ ?_;(repeat' first|constructor|intro h)<;>refine Lm ?_
  all_goals(try simp only[RT.lst_row]at*)
  all_goals(first
   |exact⟨AA.isL_row l,a.1,a.2⟩
   |exact f0h _ _
   |skip)
def cmEs(r:Mv)(s:Stk):Int:=HG r.t r.x r.y s.c.x s.c.y s.c.q
def OB(r:Mv)(s:Stk):Stk:=⟨⟨LD r.t r.x r.y s.c.x s.c.y,LU r.t r.x r.y s.c.x s.c.y,KN r.t s.c.q⟩,s.l⟩
def JV(r:Mv)(L:List Stk):Int:=if DP r.t r.x r.y=0/\L.any Ow=false then(if L.all (λs=>decide (cmEs r s=0))=true then 0 else 3)else 1
def KH(r:Mv)(L:List Stk):List Stk:=if JV r L=0 then OY AA.d AW (L.map (OB r))else []
theorem f97{r:Mv}{L:List Stk}(h:¬DP r.t r.x r.y=0):JV r L=1:=by unfold JV;rw[if_neg (λa=>h a.1)]
theorem f1x{r:Mv}{L:List Stk}(h:L.any Ow=true):JV r L=1:=by unfold JV;rw[if_neg (λa=>by simp[a.2]at h)]
theorem d2f{r:Mv}{L:List Stk}{i:Nat}(b:DP r.t r.x r.y=0)(c:L.any Ow=false)(hi:i<L.length)(h:¬cmEs r (L.getD i AA.d)=0):JV r L=3:=by unfold JV;rw[J7 ⟨b,c⟩,J8];intro a;rw[Je]at a;have:=a _ (Kb hi);rw[Jh]at this;apply h;simpa[J5,hi]using this
theorem d90{r:Mv}{L:List Stk}(b:DP r.t r.x r.y=0)(c:L.any Ow=false)(h:∀i,i<L.length->cmEs r (L.getD i AA.d)=0):JV r L=0:=by unfold JV;rw[J7 ⟨b,c⟩,J7];rw[Je];intro s hs;obtain⟨i,a,rfl⟩:=K7.1 hs;have:=h i a;simpa[J5,a]using this
theorem f0p{r:Mv}{L:List Stk}(h:JV r L≠0):(KH r L).length=0:=by unfold KH;rw[if_neg h];rfl
def PE(r:Mv)(L:List Stk)(i q:Nat):List SV:=[.int .i64 (if q<i then(OB r (L.getD q AA.d)).c.x else 0),.int .i64 (if q<i then(OB r (L.getD q AA.d)).c.y else 0),.int .u8 (if q<i then(OB r (L.getD q AA.d)).c.q else 0),if q<i then .sl 1 (L.getD q AA.d).l.length (AC.row (L.getD q AA.d).l) none else .con (.slice none 0 0)]
theorem d91{r:Mv}{L:List Stk}{i q:Nat}(h:q<i):PE r L i q=AA.sv (OB r (L.getD q AA.d)):=by simp only[PE,J7 h];rfl
theorem f27{r:Mv}{L:List Stk}{i q:Nat}(h:¬q<i):PE r L i q=d1k:=by simp only[PE,J8 h];rfl
theorem f31{r:Mv}{L:List Stk}{q:Nat}(h:q<L.length):PE r L L.length q=AA.row (L.map (OB r)) q:=by rw[d91 h];simp[RT.row,h]
theorem sm_lst{r:Mv}{L:List Stk}:AA.lst L.length (PE r L L.length)=L.map (OB r):=by
 have e:AA.lst L.length (PE r L L.length)=AA.lst L.length (AA.row (L.map (OB r))):=by simp only[RT.lst];apply List.map_congr_left;intro q hq;rw[f31 G6]
 have k:=RT.lst_row AA (L.map (OB r));rw[K8]at k;rw[e,k]
theorem sm_isL{r:Mv}{L:List Stk}:AA.isL L.length (PE r L L.length):=by intro q hq;rw[f31 hq];exact AA.isL_row (L.map (OB r)) q G6
theorem f39(t Q:Int):AD .u8 (KN t Q):=by simp only[KN,RW];cases MS t Q 3<;>cases MS t Q 2<;>cases MS t Q 1<;>cases MS t Q 0<;>simp[AD]
theorem g01{r:Mv}{L:List Stk}{i q:Nat}{c:Option Nat}:Fl (Bl (decide (q=i)) [.int .i64 (LD r.t r.x r.y (L.getD i AA.d).c.x (L.getD i AA.d).c.y),.int .i64 (LU r.t r.x r.y (L.getD i AA.d).c.x (L.getD i AA.d).c.y),.int .u8 (KN r.t (L.getD i AA.d).c.q),.sl 1 (L.getD i AA.d).l.length (AC.row (L.getD i AA.d).l) c] (PE r L i q)) (PE r L (i+1) q):=by
 by_cases e:q=i
 .subst e;rw[d91 (N7 _),f27 (Lz _),Jr rfl];right;exact⟨rfl,rfl,rfl,⟨rfl,Ew,Gr,λ_ _=>rfl⟩,Ja⟩
 .left;rw[Jq e];by_cases h:q<i
  .rw[d91 h,d91 Dx];rfl
  .rw[f27 h,f27 Dx];rfl
def b8v:AK
 | [x,.agg [.int .u8 t,.int .i64 a,.int .i64 b]]=>(LI x).map λq=>(q.1/\0<=t/\t<=255/\∀s∈q.2,AD .u8 s.c.q,.tup [.sl 4 (KH ⟨t,a,b⟩ q.2).length (AA.row (KH ⟨t,a,b⟩ q.2)) none,.int .i64 (JV ⟨t,a,b⟩ q.2)])
 |_=>none
def f7y:Fam:=⟨List Stk×Mv,λ(L,r)=>[FN L,OL r],λ(L,r)=>FX L/\0<=r.t/\r.t<=255/\∀s∈L,AD .u8 s.c.q,λ(L,r)=>.tup [.sl 4 (KH r L).length (AA.row (KH r L)) none,.int .i64 (JV r L)]⟩
def f9s:List Stk×Mv->Nat->Option Inv
 |(L,r),5=>some {β:=Nat,ok:=λi=>i<=L.length/\∀j,j<i->cmEs r (L.getD j AA.d)=0,st:=λi=>⟨[⟨23,none,.int .i64 i⟩,⟨22,none,.int .i64 L.length⟩,⟨21,none,FN L⟩,⟨6,none,.osl 1⟩,⟨3,none,.own 0 0⟩],[.cells 31 [.int .u8 r.t,.int .i64 r.x,.int .i64 r.y],.row 41 4 L.length (PE r L i) (some L.length)]⟩,μ:=λi=>L.length-i}
 |_,_=>none
theorem f95:PS 84 b8v:=by
 refine LL {l:=[(17,QU),(121,c5t),(119,VC)],h:=[(87,YU),(124,c0d)],gr:=λid=>bif Nat.beq id 10 then [.fz 4,.flat 1]else []} ⟨by simpa using⟨Tx,pCntFS,b5a⟩,Dz,by simpa using⟨c8g,f6t⟩⟩ f7y f9s b8v ?_ ?_ Tryz.func84 Dy Dy Dy ?_
 .intro args pre s h hp;unfold b8v at h;split at h
  .rename_i x t a b;simp only[Ih]at h;obtain⟨⟨q,L⟩,hx,rfl,rfl⟩:=h;obtain⟨E,F⟩:=hp;obtain⟨G,H⟩:=Py hx E;exact⟨(L,⟨t,a,b⟩),⟨G,Gk,Ja⟩,⟨H,F⟩,rfl⟩
  .cases h
 .exact Bx
 .rintro⟨L,r⟩ hp;replace hp:FX L/\0<=r.t/\r.t<=255/\∀s∈L,AD .u8 s.c.q:=hp;have n:=hp.1.1;have o:JV r L≠0->(KH r L).length=0:=f0p;refine X0a _ ?_;(repeat' first|constructor|intro h)<;>refine Lm ?_
  all_goals(try simp only[RT.lst_row,Ig,Iq,Im]at*)
  all_goals(try first
   |exact⟨hp.2.1,hp.2.2.1⟩
   |exact λ_=>⟨AA.isL_row L,n,hp.1.2⟩
   |exact At
   |(have w:JV r L=1:=Or.elim ‹_\/_› f97 f1x
     first|exact w.symm|exact o (by rw[w];decide)))
  have g:DP r.t r.x r.y=0/\L.any Ow=false:=‹_/\_›;refine⟨(0:Nat),⟨Jj _,λj k=>Dx⟩,?_,?_⟩
  .refine X0b _ ?_;(repeat' first|constructor|intro h)<;>refine Lm ?_
   all_goals first|exact Bc|(intro q _;exact .inl (by rw[f27 (Jv _)];rfl))|exact A5|rfl|skip
  .rintro i ⟨z,k⟩;replace z:i<=L.length:=z;have hm:i<L.length->L.getD i AA.d∈L:=λh=>Hk;by_cases b6:i<L.length
   .have hQ:0<=(L.getD i AA.d).c.q:=by have:=hp.2.2.2 _ (hm b6);simp only[AD]at this;omega
    by_cases m:HG r.t r.x r.y (L.getD i AA.d).c.x (L.getD i AA.d).c.y (L.getD i AA.d).c.q=0
    .refine X0b _ ?_;(repeat' first|constructor|intro h)<;>refine Lm ?_
     all_goals(try simp only[If,Ig]at*)
     all_goals(try first
      |exact Bm)
     refine⟨i+1,⟨by show i+1<=L.length;omega,λj bn=> ?_⟩,Ea,?_⟩
     .by_cases e:j<i
      .exact k j e
      .have:j=i:=Dx;subst this;exact m
     .have k0:∀v,keep (HG r.t r.x r.y (L.getD i AA.d).c.x (L.getD i AA.d).c.y (L.getD i AA.d).c.q) v=v:=λv=>by unfold keep;rw[if_pos m]
      refine X0b _ ?_;(repeat' first|constructor|intro h)<;>refine Lm ?_
      all_goals(try simp only[k0])
      all_goals first
       |omega
       |exact A5
       |exact λ_ _=>g01
       |rfl
       |skip
    .have A:JV r L=3:=d2f g.1 g.2 b6 m;refine X0b _ ?_;(repeat' first|constructor|intro h)<;>refine Lm ?_
     all_goals(try simp only[If,Ig]at*)
     all_goals(try first
      |exact Bm
      |exact A.symm
      |exact o (by rw[A];decide))
   .have I:i=L.length:=Dx;subst I;have B:JV r L=0:=d90 g.1 g.2 k;have C:KH r L=OY AA.d AW (L.map (OB r)):=by unfold KH;rw[if_pos B]
    have t5:(KH r L).length=L.length:=by rw[C,(c1p _).1,K8]
    refine X0b _ ?_;(repeat' first|constructor|intro h)<;>refine Lm ?_
    all_goals(try simp only[If,sm_lst,K8,Ig]at*)
    all_goals(try first
     |exact Bw
     |omega
     |exact B.symm
     |exact⟨sm_isL,n,λs hs=>by obtain⟨u,_,rfl⟩:=Js.1 hs;exact f39 _ _⟩
     |(intro _ _;left;rw[C];done))
def d2k(p:Pt):SV:=.agg [.int .i64 p.W,.int .i64 p.H,.sl 3 p.l.length (DU p.l) (some p.l.length)]
def ptOK(p:Pt):Prop:=p.l.length<=100000
def c7x:AK
 | [x]=>(NS x).map λq=>(q.1,d2k q.2)
 |_=>none
def FStCop:Fam:=⟨Pt,λp=>[ID p],ptOK,d2k⟩
theorem pStCop:PS 36 c7x:=by
 refine con [(77,b0w),(78,b0b)] (by simpa using⟨c39,c34⟩) FStCop (λ_ _=>none) c7x ?_ ?_ Tryz.func36 Dy Dy Dy ?_
 .intro args pre s h a;unfold c7x at h;split at h
  .rename_i x;simp only[Ih]at h;obtain⟨⟨q,p⟩,hx,rfl,rfl⟩:=h;obtain⟨b,c⟩:=Nl hx a;exact⟨p,⟨b,Ja⟩,c,rfl⟩
  .cases h
 .exact By
 .rintro p a;replace a:p.l.length<=100000:=a;exact X2e
def ME(p:Pt)(r:Mv)(L:List Stk)(m:Mv):Int:=if¬Gl r.t r.x r.y m.t m.x m.y=0\/¬JV m L=0 then 3 else if¬CX p (GX r m) (KH m L)=0 then 3 else 0
def rMvd(p:Pt)(r:Mv)(L:List Stk)(m:Mv):SV:=.tup [.agg (EO (zP (ME p r L m) p) (zR (ME p r L m) (GX r m)) (zL (ME p r L m) (KH m L))),.int .i64 (ME p r L m)]
def kMvd:AK
 | [x,.agg [.int .u8 t,.int .i64 a,.int .i64 b]]=>(MN x).map λq=>(q.1/\0<=t/\t<=255,rMvd q.2.1 q.2.2.1 q.2.2.2 ⟨t,a,b⟩)
 |_=>none
def FMvd:Fam:=⟨(Pt×Mv×List Stk)×Mv,λ((p,r,L),m)=>[.agg (EO p r L),OL m],λ((p,r,L),m)=>(prOK p r/\EG L)/\0<=m.t/\m.t<=255,λ((p,r,L),m)=>rMvd p r L m⟩
theorem mv_in{L:List Stk}{m:Mv}(h:EG L)(c:JV m L=0):EG (KH m L):=by
 have a:(KH m L).Perm (L.map (OB m)):=by unfold KH;rw[J7 c];exact(c1p _).3
 refine⟨⟨by rw[a.length_eq,K8];exact h.1.1,λs hs=> ?_⟩,λs hs=> ?_,?_⟩
 .obtain⟨t,b,rfl⟩:=Js.1 (a.mem_iff.1 hs);exact h.1.2 t b
 .obtain⟨t,b,rfl⟩:=Js.1 (a.mem_iff.1 hs);exact f39 _ _
 .rw[d6h a,f2k (f:=OB m) (λ_=>rfl)];exact h.2.2
theorem th_in{p:Pt}{r m:Mv}(h:prOK p r)(a:0<=m.t/\m.t<=255):prOK p (GX r m):=⟨h.1,c6d h.2.1 a.1⟩
theorem pMvd:PS 46 kMvd:=by
 refine con [(83,VB),(84,b8v),(36,c7x),(85,Wi)] (by simpa using⟨f8h,f95,pStCop,c28⟩) FMvd (λ_ _=>none) kMvd ?_ ?_ Tryz.func46 Dy Dy Dy ?_
 .intro args pre s h g;unfold kMvd at h;split at h
  .rename_i x t a b;simp only[Ih]at h;obtain⟨⟨q,p,r,L⟩,hx,rfl,rfl⟩:=h;obtain⟨j,k,l⟩:=QW hx g.1;exact⟨((p,r,L),⟨t,a,b⟩),⟨j,Gk,Ja⟩,⟨⟨k,l⟩,g.2⟩,rfl⟩
  .cases h
 .exact Bx
 .rintro⟨⟨p,r,L⟩,m⟩ ⟨⟨e,c⟩,d⟩;have n:=λh=>@mv_in L m c h;have o:=th_in e d;have u:=d48 c.1;have wr:=(QF e c).1;refine X0a _ ?_;(repeat' first|constructor|intro h)<;>refine Lm ?_
  all_goals(try simp only[RT.lst_row,CI,JS,Jo,Iq,Ig,Im]at*)
  all_goals(try first
   |exact⟨e.2,d⟩
   |exact⟨u,d.1,d.2,c.2.1⟩
   |exact wr.1
   |(obtain⟨g1,v⟩:=‹Gl r.t r.x r.y m.t m.x m.y=0/\JV m L=0›
     have hi:=n v;exact⟨⟨⟨wr.1,wr.2.1⟩,o.2⟩,d48 hi.1,hi.2⟩))
  all_goals first
   |(have f:ME p r L m=3:=by
      unfold ME;first
       |(rw[J7 E2];done)
       |(rw[J8 Dx,J7 E2];done)
     simp only[zP,zR,zL,f];all_goals first|exact Ax)
   |(have f:ME p r L m=0:=by
      unfold ME;rw[J8 Dx,J8 (λq=>q E2)]
     simp only[zP,zR,zL,f,eq_self,Kp];all_goals first|exact A2)
   |skip
def b2y:AK
 | [.sl 3 n f _]=>some (n<=100000/\∀i,i<n->(f i).all SV.flat0=true,.sl 3 n f none)
 | [.con (.slice none 0 0)]=>some (True,.sl 3 0 (λ_=>[]) none)
 |_=>none
def d2m:Fam:=⟨Nat×(Nat->List SV),λ(n,f)=>[.sl 3 n f none],λ(n,f)=>n<=100000/\∀i,i<n->(f i).all SV.flat0=true,λ(n,f)=>.sl 3 n f none⟩
theorem d3x:PF 78 b2y:=by
 refine Ym {} ⟨Dz,Dz,Dz⟩ d2m (λ_ _=>none) b2y ?_ ?_ Tryz.func78 Dy Dy Dy ?_
 .intro args pre s h hp;unfold b2y at h;split at h
  .rename_i n f c;cases h;exact C1
  .cases h;exact Cc
  .cases h
 .exact By
 .rintro⟨n,f⟩ ⟨hp,di⟩;refine X0a _ ?_;(repeat' first|constructor|intro h)<;>refine Lm ?_
  all_goals(first
   |exact Am
   |(intro i hi;simp;done)
   |skip)
def hVCl:HK:=λa own=>match a,own with
 | [.sl 3 n f _],[]=>some ⟨n<=100000,.osl 0,[.row 51 3 n f none],[]⟩
 |_,_=>none
def FVCl:FamH:=⟨Nat×(Nat->List SV),λ(n,f)=>[.sl 3 n f none],λ_=>[],λ(n,_)=>n<=100000,λ_=>.osl 0,λ(n,f)=>[.row 51 3 n f none],[]⟩
theorem pVCl:HS 78 hVCl:=by
 refine FU {G:={gx:=c00 2 51 3}} ⟨Dz,Dz,Dz⟩ FVCl (λ_ _=>none) hVCl ?_ ?_ ?_ Tryz.func78 Dy Dy Dy ?_
 .intro args own r h hp;unfold hVCl at h;split at h
  .rename_i n f c;cases h;exact Ds
  .cases h
 .exact By
 .exact C5
 .rintro⟨n,f⟩ μ hp;replace hp:n<=100000:=hp;refine X0a _ ?_;(repeat' first|constructor|intro h)<;>refine Lm ?_
  all_goals(first
   |exact Aq
   |exact B7
   |(intro i hi;simp;done)
   |skip)
def c8j:HK:=λa own=>match a,own with
 | [.osl 0],[.row T 3 n f _]=>if T=51 then some ⟨n<=100000,.osl 0,[.row 51 3 n f (some n)],[0]⟩else none
 |_,_=>none
def f9j:FamH:=⟨Nat×(Nat->List SV),λ_=>[.osl 0],λ(n,f)=>[.row 51 3 n f none],λ(n,_)=>n<=100000,λ_=>.osl 0,λ(n,f)=>[.row 51 3 n f (some n)],[0]⟩
theorem f71:HS 77 c8j:=by
 refine FU {} ⟨Dz,Dz,Dz⟩ f9j (λ_ _=>none) c8j ?_ ?_ ?_ Tryz.func77 Dy Dy Dy ?_
 .intro args own r h hp;unfold c8j at h;split at h
  .rename_i T n f c;split at h
   .rename_i a;subst a;cases h;exact Dr
   .cases h
  .cases h
 .exact By
 .exact C3
 .rintro⟨n,f⟩ μ hp;replace hp:n<=100000:=hp;refine X0a _ ?_;(repeat' first|constructor|intro h)<;>refine Lm ?_
  all_goals(first
   |exact Ar
   |(show some ((n:Int)-0).toNat=some n;congr 1)
   |exact B3
   |(intro i hi;congr 1;simp;done)
   |skip)
def c84:HK:=λc own=>match c,own with
 | [.agg [.int .i64 a,.int .i64 b,.sl 3 n f _]],[]=>some ⟨n<=100000,.agg [.int .i64 a,.int .i64 b,.osl 0],[.row 51 3 n f (some n)],[]⟩
 |_,_=>none
def f6b:FamH:=⟨(Int×Int)×Nat×(Nat->List SV),λ((a,b),n,f)=>[.agg [.int .i64 a,.int .i64 b,.sl 3 n f none]],λ_=>[],λ(_,n,_)=>n<=100000,λ((a,b),_,_)=>.agg [.int .i64 a,.int .i64 b,.osl 0],λ(_,n,f)=>[.row 51 3 n f (some n)],[]⟩
theorem f5t:HS 36 c84:=by
 refine FU {fs:=[(78,b2y)],fsok:=by simpa using d3x,h:=[(78,hVCl),(77,c8j)],G:={gx:=λ_=>[.sel [2,1]]}} ⟨Dz,Dz,by simpa using⟨pVCl,f71⟩⟩ f6b (λ_ _=>none) c84 ?_ ?_ ?_ Tryz.func36 Dy Dy Dy ?_
 .intro args own r h c;unfold c84 at h;split at h
  .rename_i a b n f cp;cases h;exact⟨((a,b),n,f),⟨by simp[SV.le2,SV.le1,BM,SV.le0,HQ,Fl],Ja⟩,rfl,Ja,c,rfl,rfl,rfl⟩
  .cases h
 .exact By
 .exact C5
 .rintro⟨⟨a,b⟩,n,f⟩ μ c;replace c:n<=100000:=c;exact X1c
def Rp(h:List Int->Bool)(g:List Int->Int):List Blk:=[.cells 97 [.omp 1],.map (.ints [.i64,.u8]) false h (λq=>[.int .u8 (g q)])]
def putH(h:List Int->Bool)(q:List Int):List Int->Bool:=HT h q
def PA(g:List Int->Int)(q:List Int)(k:Int):List Int->Int:=λp=>if p=q then k else g p
def hKd1:HK:=λa own=>match a,own with
 | [.agg [.int .i64 c,.int .u8 e],.int .u8 k,.own 0 0],[.cells b [.omp 1],.map K d h v]=>if b=97/\K=.ints [.i64,.u8]/\d=false then some ⟨(∀q,v q=[.int .u8 (MK v q)])/\AD .u8 e,.tup [],Rp (putH h [c,e]) (PA (MK v) [c,e] k),[]⟩else none
 |_,_=>none
def FKd1:FamH:=⟨(Int×Int×Int)×(List Int->Bool)×(List Int->Int),λ((c,e,k),_)=>[.agg [.int .i64 c,.int .u8 e],.int .u8 k,.own 0 0],λ(_,h,g)=>Rp h g,λ((_,e,_),_)=>AD .u8 e,λ_=>.tup [],λ((c,e,k),h,g)=>Rp (putH h [c,e]) (PA g [c,e] k),[]⟩
theorem pKd1:HS 35 hKd1:=by
 refine FU {} ⟨Dz,Dz,Dz⟩ FKd1 (λ_ _=>none) hKd1 ?_ ?_ ?_ Tryz.func35 Dy Dy Dy ?_
 .intro args own r h a;unfold hKd1 at h;split at h
  .rename_i c e k T2 K ag hs v;split at h
   .rename_i d;obtain⟨rfl,rfl,rfl⟩:=d;cases h;obtain⟨f,j⟩:=a;refine⟨((c,e,k),hs,MK v),⟨Ed,E6,E6,Ja⟩,rfl,⟨⟨Eg,E3,Ja⟩,⟨⟨rfl,rfl⟩,λ_=>rfl,λq _=>f q⟩,Ja⟩,j,rfl,rfl,rfl⟩
   .cases h
  .cases h
 .exact Bz
 .exact Cf
 .rintro⟨⟨c,e,k⟩,hs,g⟩ μ a;replace a:AD .u8 e:=a;refine X0a _ ?_;(repeat' first|constructor|intro h)<;>refine Lm ?_
  all_goals(first
   |exact a
   |rfl
   |exact Be
   |(intro q _;show Bl (decide (q=[c,e])) [SV.int .u8 k] [SV.int .u8 (g q)]=[SV.int .u8 (PA g [c,e] k q)];unfold PA;by_cases b:q=[c,e]
     .rw[Jr b,J7 b];rfl
     .rw[Jq b,J8 b];rfl)
   |skip)
def c63(p:Pt)(u:List Bool)(s:(List Int->Bool)×(List Int->Int))(x:Lo):(List Int->Bool)×(List Int->Int):=(putH s.1 (GU p u x).1,PA s.2 (GU p u x).1 (GU p u x).2)
def LB(p:Pt)(u:List Bool)(s:(List Int->Bool)×(List Int->Int))(l:List Lo):(List Int->Bool)×(List Int->Int):=l.foldl (c63 p u) s
def JR(S:List Sm):List Lo:=S.flatMap (·.ls)
def Qz(S:List Sm)(i k:Nat):List Lo:=JR (S.take i)++(S.getD i DD.d).ls.take k
theorem f2s{S:List Sm}{i k:Nat}(h:k<(S.getD i DD.d).ls.length):Qz S i (k+1)=Qz S i k++[(S.getD i DD.d).ls.getD k BR.d]:=by unfold Qz;rw[IE (d:=BR.d) h,List.append_assoc]
theorem f0q{S:List Sm}{i:Nat}(h:i<S.length):Qz S i (S.getD i DD.d).ls.length=JR (S.take (i+1)):=by unfold Qz JR;rw[IE (d:=DD.d) h,List.take_length];simp
theorem d7x{S:List Sm}{i:Nat}:Qz S i 0=JR (S.take i):=by simp[Qz]
theorem d8r(p:Pt)(u:List Bool)(s:(List Int->Bool)×(List Int->Int))(l:List Lo)(x:Lo):LB p u s (l++[x])=c63 p u (LB p u s l) x:=by simp[LB]
theorem f7s(W H a b:Int):AD .u8 (RM W H a b):=by
 unfold RM Mo;simp only[AD];split
 .simp
 .split
  .simp
  .split<;>simp
def c0g:HK:=λa own=>match a,own with
 | [x,.clo f [.own 0 0]],[.cells b [.omp 1],.map K c h v]=>if f=35/\b=97/\K=.ints [.i64,.u8]/\c=false then
     (VY x).map λq=>⟨(∀q,v q=[.int .u8 (MK v q)])/\q.1/\Xc q.2.2.2.2.1 q.2.2.2.2.2,.tup [],Rp (LB q.2.1 q.2.2.2.2.1 (h,MK v) (JR q.2.2.2.2.2)).1 (LB q.2.1 q.2.2.2.2.1 (h,MK v) (JR q.2.2.2.2.2)).2,[]⟩else none
 |_,_=>none
def f6v:FamH:=⟨(Pt×Mv×List Stk×List Bool×List Sm)×(List Int->Bool)×(List Int->Int),λ((p,r,L,u,S),_)=>[.agg (OD p r L u S),.clo 35 [.own 0 0]],λ(_,h,g)=>Rp h g,λ((p,_,L,u,S),_)=>TE p L u S/\Xc u S,λ_=>.tup [],λ((p,_,_,u,S),s)=>Rp (LB p u s (JR S)).1 (LB p u s (JR S)).2,[]⟩
def f6a:(Pt×Mv×List Stk×List Bool×List Sm)×(List Int->Bool)×(List Int->Int)->Nat->Option Inv
 |((p,r,L,u,S),s),2=>some {β:=Nat,ok:=λi=>i<=S.length,st:=λi=>⟨[⟨11,none,.int .i64 i⟩,⟨10,none,.int .i64 S.length⟩,⟨9,none,.sl 9 S.length (DD.row S) none⟩,⟨2,none,.own 2 0⟩,⟨1,none,.clo 35 [.own 0 0]⟩],Rp (LB p u s (JR (S.take i))).1 (LB p u s (JR (S.take i))).2++[.cells 94 (OD p r L u S)]⟩,μ:=λi=>S.length-i,sub:=λi=>some fun
  |5=>some {β:=Nat,ok:=λk=>k<=(S.getD i DD.d).ls.length,st:=λk=>⟨[⟨18,none,.int .i64 k⟩,⟨17,none,.int .i64 (S.getD i DD.d).ls.length⟩,⟨16,none,.sl 3 (S.getD i DD.d).ls.length (BR.row (S.getD i DD.d).ls) none⟩,⟨11,none,.int .i64 i⟩,⟨10,none,.int .i64 S.length⟩,⟨9,none,.sl 9 S.length (DD.row S) none⟩,⟨2,none,.own 2 0⟩,⟨1,none,.clo 35 [.own 0 0]⟩],Rp (LB p u s (Qz S i k)).1 (LB p u s (Qz S i k)).2++[.cells 94 (OD p r L u S)]⟩,μ:=λk=>(S.getD i DD.d).ls.length-k}
  |_=>none}
 |_,_=>none
theorem f66:HS 34 c0g:=by
 refine FU {l:=[(75,Xs),(76,XR)],h:=[(35,hKd1)],c2:=true} ⟨by simpa using⟨d4a,d1v⟩,Dz,by simpa using pKd1⟩ f6v f6a c0g ?_ ?_ ?_ Tryz.func34 Dy Dy Dy ?_
 .intro args own r h m;unfold c0g at h;split at h
  .rename_i x f T2 K ag hs v;split at h
   .rename_i n;obtain⟨rfl,rfl,rfl,rfl⟩:=n;simp only[Jc]at h;obtain⟨⟨q,p,o,L,u,S⟩,hx,rfl⟩:=h;obtain⟨c8,ge,rt⟩:=m;obtain⟨t,w⟩:=c02 hx ge;refine⟨((p,o,L,u,S),hs,MK v),⟨t,⟨rfl,rfl⟩,Ja⟩,rfl,⟨⟨Eg,E3,Ja⟩,⟨⟨rfl,rfl⟩,λ_=>rfl,λq _=>c8 q⟩,Ja⟩,⟨w,rt⟩,rfl,rfl,rfl⟩
   .cases h
  .cases h
 .exact Bx
 .exact Cf
 .rintro⟨⟨p,r,L,u,S⟩,s⟩ μ ⟨⟨c8,cd,ge,rt⟩,y⟩;refine X0a _ ?_;(repeat' first|constructor|intro h)<;>refine Lm ?_
  refine⟨(0:Nat),Jj _,?_,?_⟩
  .exact X3f
  .intro i e;replace e:i<=S.length:=e;have z:i<S.length->(S.getD i DD.d).ls.length<=100000/\∀x∈(S.getD i DD.d).ls,0<=x.b/\x.b<u.length:=λh=>y _ (CP h);refine X0a _ ?_;(repeat' first|constructor|intro h)<;>refine Lm ?_
   all_goals(try simp only[If]at*)
   all_goals(try first
    |exact Ak)
   .have g:i<S.length:=Dx;obtain⟨hl1,A⟩:=z g;refine⟨(0:Nat),Jj _,?_,?_⟩
    .simp only[d7x];exact X3g
    .intro k j;replace j:k<=(S.getD i DD.d).ls.length:=j;have hx:k<(S.getD i DD.d).ls.length->0<=((S.getD i DD.d).ls.getD k BR.d).b/\((S.getD i DD.d).ls.getD k BR.d).b<u.length:=λh=>A _ (CP h);refine X0a _ ?_;(repeat' first|constructor|intro h)<;>refine Lm ?_
     all_goals(try simp only[If,RT.lst_row]at*)
     all_goals(try first
      |exact Bb
      |exact⟨λ_=>rfl,f7s _ _ _ _⟩)
     .have c:k<(S.getD i DD.d).ls.length:=Dx;refine⟨k+1,by show k+1<=_;omega,F9,?_⟩;simp only[f2s c,d8r];exact X3g
     .have c:k=(S.getD i DD.d).ls.length:=Dx;subst c;refine⟨i+1,Ec,Ea,?_⟩;simp only[<-f0q g];exact X3g
   all_goals
    rw[L9 (show S.length<=i from Dx)];first|rfl|exact Be|exact B3|skip
def kdAt(s:(List Int->Bool)×(List Int->Int))(q:List Int):Int:=s.2 q
def kdC(s:(List Int->Bool)×(List Int->Int))(c:Cr):Cr:=⟨c.c,c.e,kdAt s [c.c,c.e]⟩
def UN(p:Pt)(r:Mv)(L:List Stk):(List Int->Bool)×(List Int->Int):=LB p (CS p r) (λ_=>false,λ_=>0) (JR (EP p r L))
def XA(p:Pt)(r:Mv)(L:List Stk):Pt:=⟨p.W,p.H,p.l.map (kdC (UN p r L))⟩
def d8w(s:(List Int->Bool)×(List Int->Int))(l:List Cr)(i q:Nat):List SV:=[.int .i64 (l.getD q d0).c,.int .u8 (l.getD q d0).e,.int .u8 (if q<i then kdAt s [(l.getD q d0).c,(l.getD q d0).e]else(l.getD q d0).k)]
def f3z(p:Pt)(r:Mv)(L:List Stk):SV:=.tup [d2k (zP (CO p r L) (XA p r L)),.int .i64 (CO p r L)]
def c2t:AK
 | [x]=>(MN x).map λq=>(q.1,f3z q.2.1 q.2.2.1 q.2.2.2)
 |_=>none
def FKinds:Fam:=⟨Pt×Mv×List Stk,λ(p,r,L)=>[.agg (EO p r L)],λ(p,r,L)=>prOK p r/\EG L,λ(p,r,L)=>f3z p r L⟩
def IKinds:Pt×Mv×List Stk->Nat->Option Inv
 |(p,r,L),11=>some {β:=Nat×(List Int->Bool)×(List Int->Int),ok:=λ(i,s)=>i<=p.l.length/\s=UN p r L,st:=λ(i,s)=>⟨[⟨36,none,.int .i64 i⟩,⟨35,none,.int .i64 p.l.length⟩,⟨34,none,.osl 5⟩,⟨8,none,.own 6 0⟩,⟨7,none,.own 4 0⟩,⟨2,none,.own 1 0⟩],[.cells 34 (EO p r L),.cells 29 [.int .i64 0,.int .i64 0,.con (.slice none 0 0)],.cells 94 (OD p r L (CS p r) (EP p r L)),.map (.ints [.i64,.u8]) false s.1 (λq=>[.int .u8 (s.2 q)]),.cells 97 [.omp 3],.row 51 3 p.l.length (d8w s p.l i) (some p.l.length),.cells 29 [.int .i64 p.W,.int .i64 p.H,.osl 5]]⟩,μ:=λ(i,_)=>p.l.length-i}
 |_,_=>none
theorem d69(p:Pt)(u:List Bool)(q:List Int):∀(l:List Lo) (s:(List Int->Bool)×(List Int->Int)),(s.1 q=false->s.2 q=0)->(LB p u s l).1 q=false->(LB p u s l).2 q=0
 | [],_,h=>h
 |x::l,s,h=>by
  refine d69 p u q l (c63 p u s x) λe=> ?_;show PA s.2 (GU p u x).1 (GU p u x).2 q=0;unfold PA;have b:HT s.1 (GU p u x).1 q=false:=e;by_cases a:q=(GU p u x).1
  .exfalso;simp[HT,a]at b
  .rw[J8 a];exact h (by simpa[HT,a]using b)
theorem f2w:PS 11 c2t:=by
 refine LL {l:=[(12,Qc),(33,YD)],h:=[(34,c0g),(36,c84)],c2:=true} ⟨by simpa using⟨Uj,pLook⟩,Dz,by simpa using⟨f66,f5t⟩⟩ FKinds IKinds c2t ?_ ?_ Tryz.func11 Dy Dy Dy ?_
 .intro args pre s h u;unfold c2t at h;split at h
  .simp only[Ih]at h;obtain⟨⟨q,p,r,L⟩,hx,rfl,rfl⟩:=h;obtain⟨h1,h2,h3⟩:=QW hx u;exact Cz
  .cases h
 .exact By
 .rintro⟨p,r,L⟩ ⟨n,o⟩;have v:=QF n o;refine X0a _ ?_;(repeat' first|constructor|intro h)<;>refine Lm ?_
  all_goals(try simp only[CI,RT.lst_row,Jo,JS,Im,Ig]at*)
  all_goals(try exact v)
  all_goals(try(
   have w:¬CO p r L=0:=E2;simp only[zP,J8 w];all_goals first|exact Ax))
  all_goals(
   have a:CO p r L=0:=E2;have d:CX p r L=0:=by
    rcases Decidable.em (CX p r L=0)with q|q
    .exact q
    .unfold CO at a;rw[if_pos q]at a;exact absurd a q)
  all_goals(try exact absurd d E2)
  all_goals(obtain⟨⟨k1,k2,k3,k4⟩,k5,k6⟩:=f38 n o d)
  .simp only[zP,zL,d,Kp];exact⟨λ_=>rfl,⟨⟨Do _,k1⟩,MH L k2,⟨FY.isL_row _,k3⟩,DD.isL_row _,k4⟩,k6⟩
  .exact k1
  .simp only[zP,zR,zL,d,Kp];refine⟨((0:Nat),UN p r L),⟨Jj _,rfl⟩,?_,?_⟩
   .exact X3f
   .rintro⟨i,hs,g⟩ hi;replace hi:i<=p.l.length/\(hs,g)=UN p r L:=hi;obtain⟨hi,f⟩:=hi;refine X0a _ ?_;(repeat' first|constructor|intro h)<;>refine Lm ?_
    all_goals(try simp only[If]at*)
    all_goals(try omega)
    all_goals(try first
     |trivial
     |exact A4
     |(intro q
       have:=d69 p (CS p r) [(p.l.getD i d0).c,(p.l.getD i d0).e] (JR (EP p r L)) (λ_=>false,λ_=>0) (λ_=>rfl);rw[show LB p (CS p r) (λ_=>false,λ_=>0) (JR (EP p r L))=(hs,g)from f.symm]at this;rw[show g [(p.l.getD i d0).c,(p.l.getD i d0).e]=0 from this q];kernel_rfl)
     |(simp only[zP,J7 a,XA,K8];done))
    .unfold UD;simp only[Lb,Mk];omega
    .intro q;have t:=d69 p (CS p r) [(p.l.getD i d0).c,(p.l.getD i d0).e] (JR (EP p r L)) (λ_=>false,λ_=>0) (λ_=>rfl);rw[show LB p (CS p r) (λ_=>false,λ_=>0) (JR (EP p r L))=(hs,g)from f.symm]at t;exact Eq.trans (b:=some [SV.int .u8 0]) Dy (Mf (λz=>some [SV.int .u8 z]) (t q).symm)
    .have b8:i<p.l.length:=Dx;refine⟨(i+1,hs,g),⟨Ec,f⟩,Ea,?_⟩;refine X0a _ ?_;(repeat' first|constructor|intro h)<;>refine Lm ?_
     all_goals first
      |exact B3
      |exact Be
      |exact λ_ _=>Ja
      |(intro j m
        by_cases e:j=i
        .subst e;rw[Jr rfl];simp only[d8w,J7 (N7 j),J8 (Lz j)];first|rfl|skip
        .rw[Jq e];simp only[d8w,show (j<i+1)=(j<i)from E7];first|rfl|skip)
      |skip
    .have x:i=p.l.length:=Dx;subst x;intro j m;simp only[zP,J7 a,XA];simp only[d8w,J7 m,DU,VP,kdC,<-f,It,Jz,J6 m,Kh]
def LR(p:Pt)(r:Mv)(L:List Stk)(i:Int):Int:=if CO p r L=0 then(if i<0\/((CS p r).length:Int)<=i then 7 else 0)else CO p r L
def Qp(p:Pt)(r:Mv)(L:List Stk)(i:Int):Bool:=if LR p r L i=0 then(CS p r).getD i.toNat FY.d else false
def VD:AK
 | [x,.int .i64 i]=>(MN x).map λq=>(q.1,.tup [.bool (Qp q.2.1 q.2.2.1 q.2.2.2 i),.int .i64 (LR q.2.1 q.2.2.1 q.2.2.2 i)])
 |_=>none
def FStUp:Fam:=⟨(Pt×Mv×List Stk)×Int,λ((p,r,L),i)=>[.agg (EO p r L),.int .i64 i],λ((p,r,L),_)=>prOK p r/\EG L,λ((p,r,L),i)=>.tup [.bool (Qp p r L i),.int .i64 (LR p r L i)]⟩
theorem g12{p:Pt}{r:Mv}{L:List Stk}(h:CO p r L=0):CX p r L=0:=by
 unfold CO at h;split at h
 .exact h
 .rename_i a;exact Decidable.not_not.1 a
theorem pStUp:PS 15 VD:=by
 refine con [(12,Qc),(44,kUp)] (by simpa using⟨Uj,pUp⟩) FStUp (λ_ _=>none) VD ?_ ?_ Tryz.func15 Dy Dy Dy ?_
 .intro args pre s h d;unfold VD at h;split at h
  .rename_i x i;simp only[Ih]at h;obtain⟨⟨q,p,r,L⟩,hx,rfl,rfl⟩:=h;obtain⟨h1,b,f⟩:=QW hx d;exact⟨((p,r,L),i),⟨h1,E6,Ja⟩,⟨b,f⟩,rfl⟩
  .cases h
 .exact Bx
 .rintro⟨⟨p,r,L⟩,i⟩ ⟨c8,cd⟩;refine X0a _ ?_;(repeat' first|constructor|intro h)<;>refine Lm ?_
  all_goals(try simp only[CI,RT.lst_row,Jo,JS]at*)
  .exact Dq
  iterate 2
   .have a:¬CO p r L=0:=E4;have e:LR p r L i=CO p r L:=J8 a;first|exact e.symm|(unfold Qp;rw[e,if_neg a];done)
  .exact⟨⟨⟨Do _,c8.1.1⟩,c8.1.2⟩,c8.2⟩
  iterate 2
   .rename_i h1;have a:CO p r L=0:=Ev;have b:¬Bo p r=0:=E4;exact absurd ((Vt (g12 a)).1) b
  iterate 2
   .rename_i h1 b;have a:CO p r L=0:=Ev;have c:i<0\/((CS p r).length:Int)<=i:=E4;have e:LR p r L i=7:=by unfold LR;rw[if_pos a,if_pos c]
    first|exact e.symm|(unfold Qp;rw[e];rfl)
  all_goals
   rename_i h1 b;have a:CO p r L=0:=Ev;have c:¬(i<0\/((CS p r).length:Int)<=i):=by
    intro g;have:(decide (i<0)||decide (((CS p r).length:Int)<=i))=true:=by simpa using g
    rw[this]at h;cases h
   have e:LR p r L i=0:=by unfold LR;rw[if_pos a,if_neg c]
   first
    |omega
    |exact e.symm
    |(unfold Qp;rw[e,if_pos rfl];done)
    |skip
def Ox(p:Pt)(r:Mv)(L:List Stk)(k C:Int):Int:=if¬CO p r L=0 then CO p r L else if¬FV k C=0 then 1 else ME p r L (El k C)
def flpS(L:List Stk)(k C:Int):List Stk:=(KH (El k C) L).map PT
def rFlp(p:Pt)(r:Mv)(L:List Stk)(k C:Int):SV:=.tup [.agg (EO (zP (Ox p r L k C) p) (zR (Ox p r L k C) (GX r (El k C))) (zL (Ox p r L k C) (flpS L k C))),.int .i64 (Ox p r L k C)]
def kFlp:AK
 | [x,.agg [.int .u8 k,.int .i64 C]]=>(MN x).map λq=>(q.1,rFlp q.2.1 q.2.2.1 q.2.2.2 k C)
 |_=>none
def FFlp:Fam:=⟨(Pt×Mv×List Stk)×Int×Int,λ((p,r,L),k,C)=>[.agg (EO p r L),.agg [.int .u8 k,.int .i64 C]],λ((p,r,L),_)=>prOK p r/\EG L,λ((p,r,L),k,C)=>rFlp p r L k C⟩
theorem mvd_in{p:Pt}{r m:Mv}{L:List Stk}(h:EG L)(a:ME p r L m=0):EG (KH m L):=by
 unfold ME at a;split at a
 .cases a
 .exact mv_in h Dx
theorem mvd_z{p:Pt}{r m:Mv}{L:List Stk}(h:EG L):FX (zL (ME p r L m) (KH m L)):=by
 unfold zL;split
 .exact(mvd_in h E2).1
 .exact⟨Jj _,λs hs=>nomatch hs⟩
theorem pFlp:PS 23 kFlp:=by
 refine con [(12,Qc),(55,d6q),(46,kMvd),(56,c62)] (by simpa using⟨Uj,pMvOf,pMvd,pStRev⟩) FFlp (λ_ _=>none) kFlp ?_ ?_ Tryz.func23 Dy Dy Dy ?_
 .intro args pre s h f;unfold kFlp at h;split at h
  .rename_i x k C;simp only[Ih]at h;obtain⟨⟨q,p,r,L⟩,hx,rfl,rfl⟩:=h;obtain⟨g,j,l⟩:=QW hx f;exact⟨((p,r,L),k,C),⟨g,Ed,Ja⟩,⟨j,l⟩,rfl⟩
  .cases h
 .exact Bx
 .rintro⟨⟨p,r,L⟩,k,C⟩ ⟨m,d⟩;have e:=QF m d;have b:=d71 k C;have n:=@mvd_z p r (El k C) L d;refine X0a _ ?_;(repeat' first|constructor|intro h)<;>refine Lm ?_
  all_goals(try simp only[show (⟨keep (FV k C) (Ob k),keep (FV k C) (Qt k C),keep (FV k C) (RY k C)⟩:Mv)=El k C from rfl,RT.lst_row,CI,JS,Jo,Ig,Im]at*)
  all_goals(try first
   |exact e
   |exact⟨e,b⟩
   |exact b
   |exact λ_=>b
   |omega)
  all_goals first
   |exact d48 n
   |(have a:Ox p r L k C=CO p r L:=by
      unfold Ox;rw[J7 E2]
     simp only[zP,zR,zL,a,J8 ‹¬ CO p r L=0›];all_goals first|exact Ax)
   |(have a:Ox p r L k C=1:=by
      unfold Ox;rw[J8 (λq=>q ‹CO p r L=0›),J7 E2]
     simp only[zP,zR,zL,a];all_goals first|exact Ax)
   |(have a:Ox p r L k C=ME p r L (El k C):=by
      unfold Ox;rw[J8 (λq=>q ‹CO p r L=0›),J8 (λq=>q ‹FV k C=0›)]
     first
      |(have c:¬ME p r L (El k C)=0:=by assumption
        simp only[zP,zR,zL,a,J8 c];all_goals first|exact Ax)
      |(have c:ME p r L (El k C)=0:=by assumption
        simp only[zP,zR,zL,a,c,Kp,flpS];all_goals first|exact A2))
   |skip
def c5i(W H:Int):Pt:=⟨keep (AP W H) W,keep (AP W H) H,[]⟩
def c7f:AK
 | [.agg [.int .i64 W,.int .i64 H]]=>some (True,.tup [ID (c5i W H),.int .i64 (AP W H)])
 |_=>none
def FEmpty:Fam:=⟨Int×Int,λ(W,H)=>[.agg [.int .i64 W,.int .i64 H]],λ_=>True,λ(W,H)=>.tup [ID (c5i W H),.int .i64 (AP W H)]⟩
theorem pEmpty:PS 70 c7f:=by
 refine con [(96,Pu)] (by simpa using TY) FEmpty (λ_ _=>none) c7f ?_ ?_ Tryz.func70 Dy Dy Dy ?_
 .intro args pre s h a;unfold c7f at h;split at h
  .rename_i W H;cases h;exact⟨(W,H),⟨Ed,Ja⟩,Ja,rfl⟩
  .cases h
 .exact By
 .rintro⟨W,H⟩ a;have k0:AP W H=0->∀v,keep (AP W H) v=v:=λh v=>by unfold keep;rw[if_pos h]
  have k1:¬AP W H=0->∀v,keep (AP W H) v=0:=λh v=>by unfold keep;rw[if_neg h]
  refine X0a _ ?_;(repeat' first|constructor|intro h)<;>refine Lm ?_
  all_goals(try simp only[Ig,Im]at*)
  all_goals(first
   |rfl
   |exact(k0 E2 _).symm
   |exact(k1 E2 _).symm
   |assumption
   |(symm;assumption)
   |skip)
theorem c5z{x:SV}{q:Prop}{L:List Stk}(h:Rq x=some (q,L))(a:q):x.le2 (FN L):=by unfold Rq at h;simp only[Ih]at h;obtain⟨⟨n,f⟩,hx,rfl,rfl⟩:=h;exact IW (AA.as_le hx a.1)
theorem ov_of(O:OS)(j:Nat):AA.of (MF O j)=(O.getD j dO).1:=by have:AC.lst (O.getD j dO).1.l.length (AC.row (O.getD j dO).1.l)=(O.getD j dO).1.l:=RT.lst_row _ _;show Th (MF O j)=_;unfold MF;have h:AC.as (.sl 1 (O.getD j dO).1.l.length (AC.row (O.getD j dO).1.l) (if(O.getD j dO).2=true then some (O.getD j dO).1.l.length else none))=some ((O.getD j dO).1.l.length,AC.row (O.getD j dO).1.l):=rfl;simp only[Th,h,this]
theorem f3v(O:OS):AA.lst O.length (MF O)=O.map (·.1):=by
 apply N8
 .simp[RT.lst]
 .intro i h1 a;have b:i<O.length:=by simpa using a
  simp[RT.lst,ov_of,b]
theorem ov_isL(O:OS):AA.isL O.length (MF O):=by intro i _;rw[ov_of];exact .inr ⟨by simp[SV.lf],by simp[SV.lf],by simp[SV.lf],⟨rfl,Ew,Ja,λ_ _=>rfl⟩,Ja⟩
theorem ov_set{O:OS}{k q:Nat}{d:Cl}{a b:List Int}(g:k<O.length)(hl:a=(O.getD k dO).1.l)(i:(O.getD k dO).1.c=d):
 Fl (Bl (decide (q=k)) [.int .i64 (O.getD k dO).1.c.x,.int .i64 (O.getD k dO).1.c.y,.int .u8 (O.getD k dO).1.c.q,.sl 1 (a.length+b.length) (λj=>if j<a.length then AC.row a j else AC.row b (j-a.length)) none] (MF O q)) (MF (O.set k (⟨d,a++b⟩,false)) q):=by
 by_cases e:q=k
 .subst e;rw[Jr rfl];have f:(O.set q (⟨d,a++b⟩,false)).getD q dO=(⟨d,a++b⟩,false):=by simp[g]
  have m:MF (O.set q (⟨d,a++b⟩,false)) q=[.int .i64 d.x,.int .i64 d.y,.int .u8 d.q,.sl 1 (a++b).length (AC.row (a++b)) none]:=by unfold MF;rw[f];rfl
  rw[m,i];refine .inr ⟨rfl,rfl,rfl,⟨K5.symm,Ew,Ja,λj _=> ?_⟩,Ja⟩;exact c38 AC a b j
 .rw[Jq e];left;have f:(O.set k (⟨d,a++b⟩,false)).getD q dO=O.getD q dO:=by simp[Jk (Ne.symm e)]
  unfold MF;rw[f];rfl
theorem ov_app{O:OS}{x:Stk}{j:Nat}(hj:j<O.length+1):Fl (if j<O.length then MF O j else(List.map (λx:Nat×List SV=>x.snd) [(0,[.int .i64 x.c.x,.int .i64 x.c.y,.int .u8 x.c.q,.sl 1 x.l.length (AC.row x.l) (some x.l.length)])].reverse).getD (j-O.length) []) (MF (O++[(x,true)]) j):=by
 left;by_cases e:j<O.length
 .rw[J7 e];unfold MF;simp[Jg e]
 .have:j=O.length:=Dx;subst this;rw[J8 e,Kw];unfold MF;simp[]
theorem f16{O:OS}{x:Stk}(h:FW O (FH x.c)=none)(q:List Int):HT (TS O) (FH x.c) q=TS (Ps O x) q:=by
 unfold HT TS;rw[c5b h];by_cases e:q=FH x.c
 .rw[J7 e,Jr e];rfl
 .rw[J8 e,Jq e];rfl
theorem f90{S:List Stk}{i q:Nat}{c:Option Nat}:Fl (Bl (decide (q=i)) [.int .i64 (S.getD i AA.d).c.x,.int .i64 (S.getD i AA.d).c.y,.int .u8 (S.getD i AA.d).c.q,.sl 1 (S.getD i AA.d).l.length (AC.row (S.getD i AA.d).l) c] (AA.row S q)) (AA.row S q):=by
 by_cases e:q=i
 .subst e;rw[Jr rfl];right;exact⟨rfl,rfl,rfl,⟨rfl,Ew,Gr,λ_ _=>rfl⟩,Ja⟩
 .rw[Jq e];left;rfl
def f2m:AK
 | [x,y]=>match Rq x,Rq y with
   |some (p,A),some (q,B)=>some ((p/\q)/\RH (A++B),.sl 4 (IM (A++B)).length (AA.row (IM (A++B))) (some (IM (A++B)).length))
   |_,_=>none
 |_=>none
def FOver:Fam:=⟨List Stk×List Stk,λ(A,B)=>[FN A,FN B],λ(A,B)=>(FX A/\FX B)/\RH (A++B),λ(A,B)=>.sl 4 (IM (A++B)).length (AA.row (IM (A++B))) (some (IM (A++B)).length)⟩
def ovMap(O:OS):Blk:=.map (.ints [.i64,.i64,.u8]) false (TS O) (λq=>[.int .i64 (TA O q)])
def IOver:List Stk×List Stk->Nat->Option Inv
 |(A,B),4=>some {β:=Nat,ok:=λi=>i<=(A++B).length,st:=λi=>⟨[⟨18,none,.int .i64 i⟩,⟨17,none,.int .i64 (A++B).length⟩,⟨16,none,FN (A++B)⟩,⟨6,none,.osl 2⟩,⟨5,none,.omp 0⟩],[ovMap (oF (A++B) i),.dead,.row 41 4 (oF (A++B) i).length (MF (oF (A++B) i)) none]⟩,μ:=λi=>(A++B).length-i,nl:=[.slot 6 41 4]}
 |(A,B),15=>some {β:=Nat,ok:=λi=>i<=(IM (A++B)).length,st:=λi=>⟨[⟨61,none,.int .i64 i⟩,⟨60,none,.int .i64 (IM (A++B)).length⟩,⟨6,none,.osl 2⟩],[.dead,.dead,.row 41 4 (IM (A++B)).length (AA.row (IM (A++B))) none]⟩,μ:=λi=>(IM (A++B)).length-i}
 |_,_=>none
theorem pOver:PS 73 f2m:=by
 refine LL {l:=[(97,b8i),(87,c0b),(102,b0r),(101,b1i)],x:=[(98,c0v)],fz:=λd=>Nat.beq d 16||Nat.beq d 74,gr:=λid=>bif Nat.beq id 9 then [.fz 4,.flat 2]else []} ⟨by simpa using⟨g0h,f7j,c56,d0b⟩,by simpa using f8a,Dz⟩ FOver IOver f2m ?_ ?_ Tryz.func73 Dy Dy Dy ?_
 .intro args pre s h K;unfold f2m at h;split at h
  .rename_i x y;split at h
   .rename_i p A q B hx v;cases h;obtain⟨⟨w,z⟩,M⟩:=K;exact⟨(A,B),⟨c5z hx w,c5z v z,Ja⟩,⟨⟨(b4r hx w).2,(b4r v z).2⟩,M⟩,rfl⟩
   .cases h
  .cases h
 .exact Bx
 .rintro⟨A,B⟩ ⟨⟨C,E⟩,F⟩;have N:=F;obtain⟨O,hn,j,P⟩:=N;refine X0a _ ?_;(repeat' first|constructor|intro h)<;>refine Lm ?_
  .refine⟨⟨⟨AA.is_row _,C.1,λs hs=>C.2 s (by rwa[RT.lst_row]at hs)⟩,AA.is_row _,E.1,λs hs=>E.2 s (by rwa[RT.lst_row]at hs)⟩,?_⟩;rw[RT.lst_row,RT.lst_row,<-K5];exact O
  simp only[RT.lst_row];generalize G:A++B=L at*;refine⟨(0:Nat),Jj _,?_,?_⟩
  .refine X0b _ ?_;(repeat' first|constructor|intro h)<;>refine Lm ?_
   all_goals first|rfl|exact Be|exact A5|(intro q b;exact absurd b (Jv _))|(intro q b;cases b)|skip
  .intro i f;replace f:i<=L.length:=f;have hF:=(VF (L:=L) i f).1;rcases Nj i L.length with g|rv
   .have hx:L.getD i AA.d∈L:=by rw[J5,J6 g,Kx];exact Kb g
    have b9:(L.getD i AA.d).l.length≠0:=λe=>(j _ hx).2.1 (Kv e);have Q:(L.getD i AA.d).l.length<=100000:=(j _ hx).2.2;cases hf:FW (oF L i) (FH (L.getD i AA.d).c)with
    |some k=>
     have m:TS (oF L i) [(L.getD i AA.d).c.x,(L.getD i AA.d).c.y,(L.getD i AA.d).c.q]=true:=by show (FW (oF L i) (FH (L.getD i AA.d).c)).isSome=true;rw[hf];rfl
     have n:TA (oF L i) [(L.getD i AA.d).c.x,(L.getD i AA.d).c.y,(L.getD i AA.d).c.q]=k:=by show (((FW (oF L i) (FH (L.getD i AA.d).c)).getD 0:Nat):Int)=k;rw[hf];rfl
     obtain⟨H,R⟩:=VK hf;have T:=b9q R;obtain⟨U,su⟩:=P i k g hf;all_goals refine X0b _ ?_;(repeat' first|constructor|intro h)<;>refine Lm ?_
     all_goals(try simp only[If,m,n]at*)
     all_goals(try first
      |contradiction
      |exact Bw
      |exact B8
      |(show k<(oF L i).length;exact H)
      |(intro b;cases b)
      |(refine⟨by rw[J7 U],.inr Dx,Dx,?_⟩;exact LP Dy Dx))
     .refine⟨i+1,Dx,Dx,?_⟩;simp only[WV g];refine X0b _ ?_;(repeat' first|constructor|intro h)<;>refine Lm ?_
      all_goals first
       |rfl
       |omega
       |(intro q;unfold TS;rw[d6r hf])
       |(intro q _;unfold TA;rw[d6r hf])
       |(rw[Sh hf,Kq])
       |(intro q _;rw[Sh hf];exact ov_set H rfl T)
       |exact A5
       |skip
    |none=>
     have m:TS (oF L i) [(L.getD i AA.d).c.x,(L.getD i AA.d).c.y,(L.getD i AA.d).c.q]=false:=by show (FW (oF L i) (FH (L.getD i AA.d).c)).isSome=false;rw[hf];rfl
     have n:TA (oF L i) [(L.getD i AA.d).c.x,(L.getD i AA.d).c.y,(L.getD i AA.d).c.q]=0:=by show (((FW (oF L i) (FH (L.getD i AA.d).c)).getD 0:Nat):Int)=0;rw[hf];rfl
     all_goals refine X0b _ ?_;(repeat' first|constructor|intro h)<;>refine Lm ?_
     all_goals(try simp only[If,m,n]at*)
     all_goals(try first
      |contradiction
      |exact Bw
      |exact B8
      |exact⟨AC.isL_row _,Q⟩
      |(intro _;kernel_rfl)
      |exact A8)
     .refine⟨i+1,Dx,Dx,?_⟩;simp only[WV g];refine X0b _ ?_;(repeat' first|constructor|intro h)<;>refine Lm ?_
      all_goals first
       |rfl
       |omega
       |(rw[Sp hf];simp;done)
       |exact f16 hf
       |(intro q _
         show Bl (decide (q=FH (L.getD i AA.d).c)) [SV.int .i64 ((oF L i).length:Nat)] [SV.int .i64 (TA (oF L i) q)]=[SV.int .i64 (TA (Ps (oF L i) (L.getD i AA.d)) q)];unfold TA;rw[c5b hf];by_cases e:q=FH (L.getD i AA.d).c
         .rw[J7 e,Jr e];rfl
         .rw[J8 e,Jq e];rfl)
       |(simp only[RT.lst_row];intro q b;rw[Sp hf];exact ov_app b)
       |exact A5
       |skip
   .have e:i=L.length:=Dx;subst e;refine X0b _ ?_;(repeat' first|constructor|intro h)<;>refine Lm ?_
    all_goals(try simp only[If]at*)
    all_goals(try(exfalso;omega))
    .have I:=VF (L:=L) L.length (Jf _);rw[f3v];refine⟨ov_isL _,Dx,λs hs=> ?_,oF_key (Jf _)⟩;obtain⟨o,V,rfl⟩:=Js.1 hs;exact I.2.2.1 o V (λc=>AD .u8 c.q) (λs hs=>(j s hs).1)
    .simp only[G,f3v];have I:=(VF (L:=L) L.length (Jf _)).1;have W:=@g06 L;have r:=f6g F;have t:GR IV ((oF L L.length).map (·.1))=IM L:=rfl;rw[t,<-W];generalize u:IM L=S at*;have J:IM (A++B)=S:=by rw[G];exact u
     refine⟨(0:Nat),Jj _,?_,?_⟩
     .exact X2b
     .intro i f;replace f:i<=S.length:=f;have hx:i<S.length->(S.getD i AA.d).l.length<=100000:=λh=>r _ Hk;refine X0b _ ?_;(repeat' first|constructor|intro h)<;>refine Lm ?_
      all_goals(try simp only[If,RT.lst_row]at*)
      all_goals(try first
       |exact B8
       |(show i<S.length;omega)
       |exact⟨AC.isL_row _,hx Dx⟩
       |exact A5
       |(rw[J];done)
       |(rw[J];exact λ_ _=>.inl rfl))
      refine⟨i+1,Dx,Dx,?_⟩;all_goals refine X0b _ ?_;(repeat' first|constructor|intro h)<;>refine Lm ?_
      all_goals(try simp only[Jn,RT.lst_row])
      all_goals first
       |exact Ap
       |(intro q _;exact f90)
       |skip
def r0:Mv:=⟨0,0,0⟩
def NI(W H:Int):Int:=if AP W H=0 then Bo ⟨W,H,[]⟩ r0 else AP W H
def FG(W H:Int):List Stk:=(CC ⟨W,H,[]⟩ r0).mapIdx λi c=>⟨c,[(i:Int)]⟩
def ON(W H:Int):Pt:=if NI W H=0 then⟨W,H,[]⟩else⟨0,0,[]⟩
def Oi(W H:Int):List Stk:=if NI W H=0 then IM (FG W H)else []
def PV(l:List Stk)(i q:Nat):List SV:=[.int .i64 (if q<i then(l.getD q AA.d).c.x else 0),.int .i64 (if q<i then(l.getD q AA.d).c.y else 0),.int .u8 (if q<i then(l.getD q AA.d).c.q else 0),if q<i then .sl 1 (l.getD q AA.d).l.length (AC.row (l.getD q AA.d).l) none else .con (.slice none 0 0)]
theorem f03{l:List Stk}{i q:Nat}(h:q<i):PV l i q=AA.sv (l.getD q AA.d):=by simp only[PV,J7 h];rfl
theorem f0y{l:List Stk}{i q:Nat}(h:¬q<i):PV l i q=d1k:=by simp only[PV,J8 h];rfl
theorem f49{l:List Stk}{q:Nat}(h:q<l.length):PV l l.length q=AA.row l q:=by rw[f03 h];rfl
theorem c30{W H:Int}{i:Nat}(h:i<(FG W H).length):(FG W H).getD i AA.d=⟨(CC ⟨W,H,[]⟩ r0).getD i DE.d,[(i:Int)]⟩:=by
 have k:i<(CC ⟨W,H,[]⟩ r0).length:=by unfold FG at h;rwa[List.length_mapIdx]at h
 unfold FG;simp[k]
theorem f7f{W H:Int}{i q:Nat}(hi:i<(FG W H).length):Fl (Bl (decide (q=i)) [.int .i64 ((CC ⟨W,H,[]⟩ r0).getD i DE.d).x,.int .i64 ((CC ⟨W,H,[]⟩ r0).getD i DE.d).y,.int .u8 ((CC ⟨W,H,[]⟩ r0).getD i DE.d).q,.sl 1 1 (λj=>(List.map (λx:Nat×List SV=>x.snd) [(0,[SV.int .i64 (i:Int)])].reverse).getD j []) (some 1)] (PV (FG W H) i q)) (PV (FG W H) (i+1) q):=by
 by_cases e:q=i
 .subst e;rw[f03 (N7 _),f0y (Lz _),Jr rfl,c30 hi];right;refine⟨rfl,rfl,rfl,⟨rfl,Ew,Ja,λj hj=> ?_⟩,Ja⟩;obtain rfl:j=0:=Dx;rfl
 .left;rw[Jq e];by_cases h:q<i
  .rw[f03 h,f03 Dx];rfl
  .rw[f0y h,f0y Dx];rfl
theorem fl_lst{l:List Stk}:AA.lst l.length (PV l l.length)=l:=by
 have e:AA.lst l.length (PV l l.length)=AA.lst l.length (AA.row l):=by simp only[RT.lst];apply List.map_congr_left;intro q hq;rw[f49 G6]
 rw[e,RT.lst_row]
theorem fl_is{l:List Stk}:AA.is l.length (PV l l.length):=by intro q a;rw[f49 a];exact AA.is_row l q a
theorem fl_nil:AA.lst 0 (λ_=>[])=[]:=rfl
theorem fl_is0:AA.is 0 (λ_=>[]):=λi a=>absurd a (Jv i)
def flC(W H:Int):List Blk:=[.cells 26 [.int .i64 W,.int .i64 H],.cells 34 [.int .i64 0,.int .i64 0,.con (.slice none 0 0),.int .u8 0,.int .i64 0,.int .i64 0,.con (.slice none 0 0)],.cells 29 [.int .i64 W,.int .i64 H,.sl 3 0 (DU []) none]]
def Wf(p:Pt)(r:Mv)(L:List Stk):List SV:=[.int .i64 p.W,.int .i64 p.H,.sl 3 p.l.length (DU p.l) none,.int .u8 r.t,.int .i64 r.x,.int .i64 r.y,.sl 4 L.length (AA.row L) (some L.length)]
def c4u:AK
 | [.agg [.int .i64 W,.int .i64 H]]=>some (AP W H=0->Bo ⟨W,H,[]⟩ r0=0->RH (FG W H),.tup [.agg (Wf (ON W H) r0 (Oi W H)),.int .i64 (NI W H)])
 |_=>none
def f7k:Fam:=⟨Int×Int,λ(W,H)=>[.agg [.int .i64 W,.int .i64 H]],λ(W,H)=>AP W H=0->Bo ⟨W,H,[]⟩ r0=0->RH (FG W H),λ(W,H)=>.tup [.agg (Wf (ON W H) r0 (Oi W H)),.int .i64 (NI W H)]⟩
def f9r:Int×Int->Nat->Option Inv
 |(W,H),9=>some {β:=Nat,ok:=λi=>i<=(FG W H).length,st:=λi=>⟨[⟨34,none,.int .i64 i⟩,⟨33,none,.int .i64 (FG W H).length⟩,⟨32,none,.sl 3 (CC ⟨W,H,[]⟩ r0).length (DE.row (CC ⟨W,H,[]⟩ r0)) none⟩,⟨7,none,.osl 3⟩,⟨4,none,.own 2 0⟩,⟨2,none,.own 1 0⟩],flC W H++[.row 41 4 (FG W H).length (PV (FG W H) i) (some (FG W H).length)]⟩,μ:=λi=>(FG W H).length-i}
 |_,_=>none
theorem d1w:PS 31 c4u:=by
 refine LL {l:=[(70,c7f),(72,b2x),(71,XE),(73,f2m)],fz:=λd=>Nat.beq d 49,gr:=λid=>bif Nat.beq id 11 then [.fz 5,.flat 3]else(bif Nat.beq id 13 then [.orders]else [])} ⟨by simpa using⟨pEmpty,d79,c45,pOver⟩,Dz,Dz⟩ f7k f9r c4u ?_ ?_ Tryz.func31 Dy Dy Dy ?_
 .intro args pre s h g;unfold c4u at h;split at h
  .rename_i W H;cases h;exact⟨(W,H),⟨Ed,Ja⟩,g,rfl⟩
  .cases h
 .exact By
 .rintro⟨W,H⟩ g;replace g:AP W H=0->Bo ⟨W,H,[]⟩ r0=0->RH (FG W H):=g;have k0:AP W H=0->c5i W H=⟨W,H,[]⟩:=λh=>by unfold c5i keep;rw[if_pos h,if_pos h]
  have n:(FG W H).length=(CC ⟨W,H,[]⟩ r0).length:=Hp;by_cases hs:AP W H=0
  .have k1:=k0 hs;by_cases e:Bo ⟨W,H,[]⟩ r0=0
   .have k:=g hs e;have r:=k.2.1;have a:NI W H=0:=by unfold NI;rw[if_pos hs,e]
    have b:ON W H=⟨W,H,[]⟩:=by unfold ON;rw[if_pos a]
    have j:Oi W H=IM (FG W H):=by unfold Oi;rw[if_pos a]
    refine X0a _ ?_;(repeat' first|constructor|intro h)<;>refine Lm ?_
    all_goals(try simp only[CI,Ig,Im,k1]at*)
    all_goals(try first
     |contradiction
     |exact absurd e E2
     |(refine⟨⟨⟨Do _,by show 0<=100000;omega⟩,λc m=>by cases m⟩,Dx,Dx⟩)
     |(rw[show (⟨0,0,0⟩:Mv)=r0 from rfl,<-n];refine⟨Dx,Dx,?_,Dx⟩;exact Rs Dy Dx Dx))
    refine⟨(0:Nat),Jj _,?_,?_⟩
    .refine X0b _ ?_;(repeat' first|constructor|intro h)<;>refine Lm ?_
     all_goals(try simp only[n,show (⟨0,0,0⟩:Mv)=r0 from rfl])
     all_goals first|exact Bc|(intro q _;exact .inl (by rw[f0y (Jv _)];rfl))|exact A5|rfl|skip
    .intro i o;replace o:i<=(FG W H).length:=o;by_cases b6:i<(FG W H).length
     .refine X0b _ ?_;(repeat' first|constructor|intro h)<;>refine Lm ?_
      all_goals(try simp only[If]at*)
      all_goals(try first
       |exact Bw
       |exact Ak
       |exact As)
      refine⟨i+1,Ec,Ea,?_⟩;all_goals refine X0b _ ?_;(repeat' first|constructor|intro h)<;>refine Lm ?_
      all_goals(try simp only[Jn])
      all_goals first
       |omega
       |exact λ_ _=>f7f Dx
       |exact A5
       |rfl
       |skip
     .obtain rfl:i=(FG W H).length:=Dx;refine X0b _ ?_;(repeat' first|constructor|intro h)<;>refine Lm ?_
      all_goals(try simp only[If,fl_lst,fl_nil,Nd,b,j]at*)
      all_goals(try first
       |exact Bw
       |omega
       |exact Ay
       |exact⟨⟨⟨fl_is0,Dx,λs hs=>by cases hs⟩,fl_is,r,λs hs=>(k.2.2.1 s hs).2.2⟩,k⟩
       |exact a.symm)
   .have a:NI W H=Bo ⟨W,H,[]⟩ r0:=by unfold NI;rw[if_pos hs]
    have b:ON W H=⟨0,0,[]⟩:=by unfold ON;rw[if_neg (by rw[a];exact e)]
    have j:Oi W H=[]:=by unfold Oi;rw[if_neg (by rw[a];exact e)]
    refine X0a _ ?_;(repeat' first|constructor|intro h)<;>refine Lm ?_
    all_goals(try simp only[CI,Ig,Im,k1]at*)
    all_goals(first
     |contradiction
     |exact absurd E2 e
     |(refine⟨⟨⟨Do _,by show 0<=100000;omega⟩,λc m=>by cases m⟩,Dx,Dx⟩)
     |(rw[b];done)
     |(rw[b];rfl)
     |(rw[j];rfl)
     |exact a.symm
     |rfl
     |skip)
  .have a:NI W H=AP W H:=by unfold NI;rw[if_neg hs]
   have b:ON W H=⟨0,0,[]⟩:=by unfold ON;rw[if_neg (by rw[a];exact hs)]
   have j:Oi W H=[]:=by unfold Oi;rw[if_neg (by rw[a];exact hs)]
   refine X0a _ ?_;(repeat' first|constructor|intro h)<;>refine Lm ?_
   all_goals(try simp only[CI,Ig,Im]at*)
   all_goals(first
    |contradiction
    |(rw[b];done)
    |(rw[b];rfl)
    |(rw[j];rfl)
    |exact a.symm
    |rfl
    |skip)
theorem f3g{L:List Stk}{nA:Nat}(m:∀i j,i<j->j<nA->j<L.length->(L.getD i AA.d).c≠(L.getD j AA.d).c):∀i,i<=L.length->∀o∈oF L i,
 ((o.2=true/\o.1∈L)\/(o.2=false/\∃j,nA<=j/\j<i/\(L.getD j AA.d).c=o.1.c))/\∃j,j<i/\(L.getD j AA.d).c=o.1.c
 |0,_=>by simp[oF]
 |i+1,h=>by
  intro o f;have n:=f3g m i Dx;have q:∀o∈oF L i,((o.2=true/\o.1∈L)\/(o.2=false/\∃j,nA<=j/\j<i+1/\(L.getD j AA.d).c=o.1.c))/\∃j,j<i+1/\(L.getD j AA.d).c=o.1.c:=by
   intro o f;obtain⟨g,j,r,l⟩:=n o f;refine⟨?_,j,Dx,l⟩;rcases g with g|⟨e,j,a,b,c⟩
   .exact .inl g
   .exact .inr ⟨e,j,a,Dx,c⟩
  rw[WV Dx]at f;cases hf:FW (oF L i) (FH (L.getD i AA.d).c)with
  |some k=>
   obtain⟨s,t⟩:=VK hf;rw[Sh hf]at f;rcases Ly f with f|rfl
   .exact q o f
   .have u:nA<=i:=by
     rcases Nj i nA with v|w
     .obtain⟨_,j,r,l⟩:=n _ (CP (d:=dO) s);exact absurd (l.trans (b9q t)) (m j i r v Dx)
     .exact w
    exact⟨.inr ⟨rfl,i,u,Dx,rfl⟩,i,Dx,rfl⟩
  |none=>
   rw[Sp hf]at f;rcases Jt.1 f with f|f
   .exact q o f
   .simp only[Jw]at f;subst f;exact⟨.inl ⟨rfl,CP Dx⟩,i,Dx,rfl⟩
theorem d84{L:List Stk}{nA:Nat}(g:0<L.length)(m:L.length<=100000)(hs:∀s∈L,AD .u8 s.c.q/\s.l≠[]/\s.l.length<=50000)
 (n:∀i j,i<j->j<nA->j<L.length->(L.getD i AA.d).c≠(L.getD j AA.d).c) (o:∀i j,nA<=i->i<j->j<L.length->(L.getD i AA.d).c≠(L.getD j AA.d).c):RH L:=by
 refine⟨g,m,λs h=>⟨(hs s h).1,(hs s h).2.1,by have:=(hs s h).2.2;omega⟩,λi k f r=> ?_⟩;obtain⟨t,u⟩:=VK r;obtain⟨v,_⟩:=f3g n i Dx _ (CP (d:=dO) t);rcases v with⟨e,w⟩|⟨_,j,a,b,c⟩
 .refine⟨e,?_⟩;have a1:=(hs _ w).2.2;have a2:=(hs _ (CP (d:=AA.d) f)).2.2;omega
 .exact absurd (c.trans (b9q u)) (o j i a b f)
theorem d86{W H:Int}{has:List Int->Bool}{s b:BS}{i e:Int}(c:∀q,has q=false)(h:Ko W H has s i e=some b)(a:∀m∈s.out,m=AE.d):∀m∈b.out,m=AE.d:=by
 have f:IG W H has (s.out.getD i.toNat AE.d) i e=AE.d:=by
  unfold IG;rw[c,cond_false,J5];cases hg:s.out[i.toNat]? with
  |none=>rfl
  |some m=>exact a m (Jb hg)
 unfold Ko at h;split at h
 .simp only at h;split at h
  .cases h;cases s.kn.getD (AF W H i e).toNat false with
   |true=>exact a
   |false=>
    simp only[cond_false];exact b3k (q:=λm=>m=AE.d) a f
  .cases h
 .cases h;exact a
theorem c6p{W H:Int}{has:List Int->Bool}{i:Int}(c:∀q,has q=false):∀(l:List Int) {s a:BS},ML W H has i l s=some a->(∀m∈s.out,m=AE.d)->∀m∈a.out,m=AE.d
 | [],s,a,h,b=>by cases h;exact b
 |e::l,s,a,h,b=>by simp only[ML,Jd]at h;obtain⟨s1,f,g⟩:=h;exact c6p c l g (d86 c f b)
theorem f42{W H:Int}{has:List Int->Bool}(b:∀q,has q=false):∀(f:Nat) {s:BS} {l:List Mv},II W H has f s=some l->(∀m∈s.out,m=AE.d)->∀m∈l,m=AE.d
 |0,s,l,h,a=>by
  simp only[II]at h;split at h<;>cases h
  exact a
 |f+1,s,l,h,a=>by
  simp only[II]at h;split at h
  .cases h;exact a
  .simp only[Jd]at h;obtain⟨s1,c,e⟩:=h;exact f42 b f e (c6p b _ c (s:=⟨s.out,s.kn,_⟩) a)
theorem d89{W H:Int}:∀m∈BA ⟨W,H,[]⟩,m=AE.d:=by
 unfold BA;cases h:NF ⟨W,H,[]⟩with
 |none=>simp
 |some l=>
  refine f42 (λq=>rfl) _ h (λm a=> ?_);exact(List.mem_replicate.1 a).2
theorem d8n{W H i j:Int}(hs:AP W H=0)(c:0<=i)(h:i<4*W*H)(k0:0<=j)(k:j<4*W*H)(e:AJ W H i=AJ W H j):i=j:=by rw[JJ hs c h,JJ hs k0 k]at e;simp only[Cl.mk.injEq]at e;obtain⟨d,f,e3⟩:=e;have a:=Mw (i/4) W;have b:=Mw (j/4) W;rw[d,f]at a;omega
theorem c9h{W H:Int}(hs:AP W H=0)(a:Bo ⟨W,H,[]⟩ r0=0):(CC ⟨W,H,[]⟩ r0).Nodup:=by
 have P:=Oy (p:=⟨W,H,[]⟩) (r:=r0) E1 a;have hN:=CF hs;have zr:(CC ⟨W,H,[]⟩ r0).length=AG W H:=P.il;have hrl:=(Si a).1;have fk:(BC ⟨W,H,[]⟩ r0).length=AG W H:=P.pl;have one:∀i:Nat,i<AG W H->(BC ⟨W,H,[]⟩ r0).getD i AE.d=GX AE.d r0:=λi b=>by rw[(Si a).2 i Dx];unfold KJ;rw[d89 _ (CP (d:=AE.d) (show i<(BA ⟨W,H,[]⟩).length from Dx))]
 refine Kg.2 λi j b k f6 e=> ?_;have f:=P.im i (by show i<AG W H;omega);have g:=P.im j (by show j<AG W H;omega);rw[J5,J6 b,Kx,one i Dx]at f;rw[J5,J6 k,Kx,one j Dx]at g;have vm:=P.vm 0 (by show 0<AG W H;omega);rw[one 0 Dx]at vm;have l:=f.1.symm.trans (e.trans g.1);have ci:=IY hs (i:=(i:Int)) Dx Dx;have cj:=IY hs (i:=(j:Int)) Dx Dx;have m:=f8z (c:=AJ W H i) hs Dx Dx Dx;have n:=f8z (c:=AJ W H j) hs Dx Dx Dx;have:=d8n hs Dx Dx Dx Dx (d11 vm m n l);omega
theorem d96{W H:Int}(hs:AP W H=0)(b:Bo ⟨W,H,[]⟩ r0=0):RH (FG W H):=by
 have P:=Oy (p:=⟨W,H,[]⟩) (r:=r0) E1 b;have hN:=CF hs;have zr:(CC ⟨W,H,[]⟩ r0).length=AG W H:=P.il;have kl:(FG W H).length=(CC ⟨W,H,[]⟩ r0).length:=Hp;have l:=c9h hs b;have f:∀i j,i<j->j<(FG W H).length->((FG W H).getD i AA.d).c≠((FG W H).getD j AA.d).c:=λi j m n e=>by rw[c30 n,c30 (show i<(FG W H).length from Dx)]at e;have:=Kg.1 l i j Dx Dx m;apply this;simpa[J5,J6 (show i<(CC ⟨W,H,[]⟩ r0).length from Dx),J6 (show j<(CC ⟨W,H,[]⟩ r0).length from Dx)]using e
 refine d84 (nA:=(FG W H).length) Dx Dx (λs o=> ?_) (λi j g k a=>f i j g a) (λi j g k a=>f i j k a);obtain⟨i,q,rfl⟩:=NH (d:=AA.d) o;rw[c30 q];have:=(P.im i (by show i<AG W H;omega)).2.2.2;refine⟨Fh,Dz,Dz⟩
def c6e:AK
 | [.agg [.int .i64 W,.int .i64 H]]=>some (True,.tup [.agg (Wf (ON W H) r0 (Oi W H)),.int .i64 (NI W H)])
 |_=>none
theorem d88:PS 31 c6e:=by
 refine⟨d1w.1,λA w args a pre s c d e b hp=> ?_⟩;unfold c6e at b;split at b
 .rename_i W H;cases b;exact d1w.2 A w _ a _ _ c d e rfl (λf g=>d96 f g)
 .cases b
end Go.Proofs.YtaihldljnlgnoaaGreatDoor.V
