/-
  Parts of the proof: A33 A34 A35 A36 A29 A37 A40 D27 Y20. Conditions: none.
-/
import Derived.Test.YtngppkidkigcbaaGreatDoorSfc5
import Derived.Test.YtngppkidkigcbaaGreatDoorSfc15
import Derived.Test.YtngppkidkigcbaaGreatDoorSfc7
import Derived.Test.YtngppkidkigcbaaGreatDoorSfc8
set_option maxRecDepth 100000
set_option maxHeartbeats 40000000
namespace Go.Proofs.YtngppkidkigcbaaGreatDoor.V
open Go
theorem pSym:∀F,HS 204 (RA F)
 |0=>by
  refine⟨⟨_,Tryz.func204,Dk,Dk⟩,λA w args vals own μ r _ _ _ _ _ h a=> ?_⟩;unfold RA at h;split at h
  .split at h
   .cases h;obtain⟨p1,p2,p3,p4,p5,p6,p7,p8⟩:=a;exfalso;omega
   .cases h
  .cases h
 |F+1=>pSym1 F (pSym F)
def f63:HK:=λa own=>match own with
 |.row T b n g c::o=>RA n a (.row T b n g c::o)
 |_=>none
theorem pSymN:HS 204 f63:=by
 refine⟨(pSym 0).1,λA w a b own c r d e f g i h j=> ?_⟩;unfold f63 at h;split at h
 .exact(pSym _).2 A w a b _ c r d e f g i h j
 .cases h
section
variable{α:Type}{d:α}{lt:α->α->Bool}
theorem f37{n f a:Nat}{L:List α}(h:a+20<=n):Nl d lt n (f+1) a L=Nl d lt n f (a+20) (FZ d lt a (a+20) L):=by rw[Nl,Ih h]
theorem c9s{n f a:Nat}{L:List α}(h:¬a+20<=n):Nl d lt n f a L=FZ d lt a n L:=by
 cases f with
 |zero=>rfl
 |succ f=>rw[Nl,Ii h]
theorem f2x{n b f a:Nat}{L:List α}(h:a+2*b<=n):KB d lt n b (f+1) a L=KB d lt n b f (a+2*b) (DV d lt n a (a+b) (a+2*b) L):=by rw[KB,Ih h]
theorem d1j{n b f a:Nat}{L:List α}(h:¬a+2*b<=n)(k:a+b<n):KB d lt n b f a L=DV d lt n a (a+b) n L:=by
 cases f with
 |zero=>rw[KB,Ih k]
 |succ f=>rw[KB,Ii h,Ih k]
theorem d34{n b f a:Nat}{L:List α}(h:¬a+2*b<=n)(k:¬a+b<n):KB d lt n b f a L=L:=by
 cases f with
 |zero=>rw[KB,Ii k]
 |succ f=>rw[KB,Ii h,Ii k]
theorem f43{n f a:Nat}{L:List α}(h:a<n):Na d lt n (f+1) a L=Na d lt n f (2*a) (KB d lt n a n 0 L):=by rw[Na,Ih h]
theorem c9x{n f a:Nat}{L:List α}(h:¬a<n):Na d lt n f a L=L:=by
 cases f with
 |zero=>rfl
 |succ f=>rw[Na,Ii h]
end
def hStb:HK:=λa own=>match a,own with
 | [.osl 0,.int .i64 k,.clo f []],[.row T 4 n g _]=>if T=CC/\f=132 then some ⟨AA.isL n g/\n<=100000/\k=n/\(∀s∈AA.lst n g,AD .u8 s.c.q),.tup [],[.row CC 4 (AA.lst n g).length (AA.row (Od AA.d AW (AA.lst n g))) none],[]⟩else none
 |_,_=>none
def FStb:FamH:=⟨List Stk,λ(l:List Stk)=>[.osl 0,.int .i64 (l.length:Int),.clo 132 []],λ(l:List Stk)=>[.row CC 4 l.length (AA.row l) none],λ(l:List Stk)=>l.length<=100000/\∀s∈l,AD .u8 s.c.q,λ_=>.tup [],λ(l:List Stk)=>[.row CC 4 l.length (AA.row (Od AA.d AW l)) none],[]⟩
def IStb:List Stk->Nat->Option Inv
 |l,2=>some {β:=Nat×Nat×List Stk,ok:=λ(f,a,L)=>Sub L l/\a<=l.length/\l.length-a<=f/\Nl AA.d AW l.length f a L=Nl AA.d AW l.length l.length 0 l,st:=λ(_,a,L)=>⟨[⟨8,none,.int .i64 ((a:Int)+20)⟩,⟨7,none,.int .i64 a⟩,⟨6,none,.int .i64 20⟩,⟨2,none,.clo 132 []⟩,⟨1,none,.int .i64 (l.length:Int)⟩,⟨0,none,.osl 0⟩],[.row CC 4 l.length (AA.row L) none]⟩,μ:=λ(f,_)=>f}
 |l,7=>some {β:=Nat×Nat×List Stk,ok:=λ(f,b,L)=>Sub L l/\20<=b/\b<=2*l.length+40/\l.length<=b+f/\Na AA.d AW l.length f b L=Od AA.d AW l,st:=λ(_,b,L)=>⟨[⟨6,none,.int .i64 b⟩,⟨2,none,.clo 132 []⟩,⟨1,none,.int .i64 (l.length:Int)⟩,⟨0,none,.osl 0⟩],[.row CC 4 l.length (AA.row L) none]⟩,μ:=λ(f,_)=>f,sub:=λ(f,b,_)=>some fun
  |9=>some {β:=Nat×Nat×List Stk,ok:=λ(g,a,M)=>Sub M l/\a<=l.length/\l.length-a<=g/\b<l.length/\Na AA.d AW l.length (f-1) (2*b) (KB AA.d AW l.length b g a M)=Od AA.d AW l,st:=λ(_,a,M)=>⟨[⟨8,none,.int .i64 ((a:Int)+2*b)⟩,⟨7,none,.int .i64 a⟩,⟨6,none,.int .i64 b⟩,⟨2,none,.clo 132 []⟩,⟨1,none,.int .i64 (l.length:Int)⟩,⟨0,none,.osl 0⟩],[.row CC 4 l.length (AA.row M) none]⟩,μ:=λ(g,_)=>g}
  |_=>none}
 |_,_=>none
theorem pStb:HS 178 hStb:=by
 refine HB {h:=[(204,f63),(149,hIns)]} ⟨Dm,Dm,by simpa using⟨pSymN,pIns⟩⟩ FStb IStb hStb ?_ ?_ ?_ Tryz.func178 Dk Dk Dk ?_
 .intro args own r h w;unfold hStb at h;split at h
  .rename_i k f T n g c;split at h
   .rename_i E;obtain⟨rfl,rfl⟩:=E;cases h;obtain⟨F,p2,p3,G⟩:=w;have hl:=RT.lst_length AA n g;exact⟨AA.lst n g,⟨Dt,E6,Dt,Im⟩,rfl,Up F,⟨Dj,G⟩,rfl,rfl,rfl⟩
   .cases h
  .cases h
 .exact Bv
 .exact Bz
 .rintro(l:List Stk) μ w;replace w:l.length<=100000/\∀s∈l,AD .u8 s.c.q:=w;obtain⟨h0,h5⟩:=w;have o:∀L:List Stk,L.length=l.length->AA.lst l.length (AA.row L)=L:=λL e=>by rw[<-e];exact RT.lst_row _ _
  have pq:∀L:List Stk,L.length=l.length->AA.isL l.length (AA.row L):=λL e=>by rw[<-e];exact AA.isL_row L
  refine X0 _ ?_;(repeat' first|constructor|intro h)<;>refine Lm ?_
  all_goals(try simp only[]at*)
  all_goals(try first
   |exact Aj)
  refine⟨(l.length,0,l),⟨Sub.refl l,Ix _,by show l.length-0<=l.length;omega,rfl⟩,?_,?_⟩
  .exact X2f
  .rintro⟨f,a,L⟩ k;replace k:Sub L l/\a<=l.length/\l.length-a<=f/\Nl AA.d AW l.length f a L=Nl AA.d AW l.length l.length 0 l:=k;obtain⟨k1,k2,k3,k4⟩:=k;have x:=k1.1;have t:((a:Int)+20).toNat=a+20:=Dj;by_cases u:a+20<=l.length
   .obtain⟨f,rfl⟩:∃A,f=A+1:=⟨f-1,Dj⟩
    rw[f37 u]at k4;have y:=(Ut (d:=AA.d) (lt:=AW) (a:=a) (b:=a+20) (l:=L) Dj).trans k1;refine X0a _ ?_;(repeat' first|constructor|intro h)<;>refine Lm ?_
    all_goals(try simp only[Hv,t,o,k1.1]at*)
    all_goals(try first
     |exact Bc)
    refine⟨(f,a+20,FZ AA.d AW a (a+20) L),⟨y,u,by show l.length-(a+20)<=f;omega,k4⟩,E2,?_⟩;all_goals exact X2g
   .rw[c9s u]at k4;have y:=(Ut (d:=AA.d) (lt:=AW) (a:=a) (b:=l.length) (l:=L) Dj).trans k1;refine X0a _ ?_;(repeat' first|constructor|intro h)<;>refine Lm ?_
    all_goals(try simp only[Hv,t,o,k1.1]at*)
    all_goals(try first
     |exact Bc)
    refine⟨(l.length,20,FZ AA.d AW a l.length L),⟨y,Ir _,by show 20<=2*l.length+40;omega,by show l.length<=20+l.length;omega,by show Na AA.d AW l.length l.length 20 (FZ AA.d AW a l.length L)=_;rw[k4];rfl⟩,?_,?_⟩
    .exact X2g
    .clear k1 k2 k3 k4 x y t u;rintro⟨f,j,L⟩ k;replace k:Sub L l/\20<=j/\j<=2*l.length+40/\l.length<=j+f/\Na AA.d AW l.length f j L=Od AA.d AW l:=k;obtain⟨k1,k2,k3,k4,k5⟩:=k;have x:=k1.1;by_cases z:j<l.length
     .obtain⟨f,rfl⟩:∃A,f=A+1:=⟨f-1,Dj⟩
      rw[f43 z]at k5;refine X0a _ ?_;(repeat' first|constructor|intro h)<;>refine Lm ?_
      all_goals(try simp only[Hv,k1.1]at*)
      all_goals(try first
       |exact Aj)
      refine⟨(l.length,0,L),⟨k1,Ix _,by show l.length-0<=l.length;omega,z,k5⟩,?_,?_⟩
      .exact X2f
      .clear k1 k5 x;rintro⟨g,a,L⟩ k;replace k:Sub L l/\a<=l.length/\l.length-a<=g/\j<l.length/\Na AA.d AW l.length f (2*j) (KB AA.d AW l.length j g a L)=Od AA.d AW l:=k;obtain⟨k1,k6,k7,k8,k9⟩:=k;have x:=k1.1;have t:((a:Int)+j).toNat=a+j:=Dj;have v:((a:Int)+2*j).toNat=a+2*j:=Dj;by_cases u:a+2*j<=l.length
       .obtain⟨g,rfl⟩:∃H,g=H+1:=⟨g-1,Dj⟩
        rw[f2x u]at k9;have B:=(KQ (d:=AA.d) (lt:=AW) l.length a (a+j) (a+2*j) L Dj Dj Dj).trans k1;refine X0a _ ?_;(repeat' first|constructor|intro h)<;>refine Lm ?_
        all_goals(try simp only[Hv,t,v,o,k1.1]at*)
        all_goals(try first
         |exact Au)
        refine⟨(g,a+2*j,DV AA.d AW l.length a (a+j) (a+2*j) L),⟨B,u,by show l.length-(a+2*j)<=g;omega,z,k9⟩,by show g<g+1;omega,?_⟩;all_goals exact X2h
       .by_cases C:a+j<l.length
        .rw[d1j u C]at k9;have B:=(KQ (d:=AA.d) (lt:=AW) l.length a (a+j) l.length L Dj Dj Dj).trans k1;refine X0a _ ?_;(repeat' first|constructor|intro h)<;>refine Lm ?_
         all_goals(try simp only[Hv,t,v,o,k1.1]at*)
         all_goals(try first
          |exact Au)
         refine⟨(f,2*j,DV AA.d AW l.length a (a+j) l.length L),⟨B,by show 20<=2*j;omega,by show 2*j<=_;omega,by show l.length<=2*j+f;omega,k9⟩,E2,?_⟩;all_goals exact X2h
        .rw[d34 u C]at k9;refine X0a _ ?_;(repeat' first|constructor|intro h)<;>refine Lm ?_
         all_goals(try simp only[Hv,t,v,o,k1.1]at*)
         all_goals(try first
          |exact Au)
         refine⟨(f,2*j,L),⟨k1,by show 20<=2*j;omega,by show 2*j<=_;omega,by show l.length<=2*j+f;omega,k9⟩,E2,?_⟩;all_goals exact X2h
     .rw[c9x z]at k5;refine X0a _ ?_;(repeat' first|constructor|intro h)<;>refine Lm ?_
      all_goals(try simp only[Hv,k1.1]at*)
      all_goals(try first
       |exact Aj
       |(intro _ _;left;rw[<-k5];done))
def b96:HK:=λa own=>match a,own with
 | [.osl 0,.clo f []],[.row T 4 n g _]=>if T=CC/\f=132 then some ⟨AA.isL n g/\n<=100000/\(∀s∈AA.lst n g,AD .u8 s.c.q),.tup [],[.row CC 4 (AA.lst n g).length (AA.row (Od AA.d AW (AA.lst n g))) none],[]⟩else none
 |_,_=>none
def f5k:FamH:=⟨List Stk,λ_=>[.osl 0,.clo 132 []],λ(l:List Stk)=>[.row CC 4 l.length (AA.row l) none],λ(l:List Stk)=>l.length<=100000/\∀s∈l,AD .u8 s.c.q,λ_=>.tup [],λ(l:List Stk)=>[.row CC 4 l.length (AA.row (Od AA.d AW l)) none],[]⟩
theorem f3e:HS 131 b96:=by
 refine HB {h:=[(178,hStb)]} ⟨Dm,Dm,by simpa using pStb⟩ f5k (λ_ _=>none) b96 ?_ ?_ ?_ Tryz.func131 Dk Dk Dk ?_
 .intro args own r h a;unfold b96 at h;split at h
  .rename_i f T n g c;split at h
   .rename_i j;obtain⟨rfl,rfl⟩:=j;cases h;obtain⟨k,p2,m⟩:=a;have hl:=RT.lst_length AA n g;exact⟨AA.lst n g,⟨Dt,Dt,Im⟩,rfl,Up k,⟨Dj,m⟩,rfl,rfl,rfl⟩
   .cases h
  .cases h
 .exact Bt
 .exact Bz
 .rintro(l:List Stk) μ a;replace a:l.length<=100000/\∀s∈l,AD .u8 s.c.q:=a;obtain⟨b,d⟩:=a;have o:AA.lst l.length (AA.row l)=l:=RT.lst_row _ _;have e:AA.isL l.length (AA.row l):=AA.isL_row l;refine X0 _ ?_;(repeat' first|constructor|intro h)<;>refine Lm ?_
  all_goals(try simp only[o])
  all_goals first
   |exact⟨e,b,Im,d⟩
   |exact⟨e,b,rfl,d⟩
   |exact λ_ _=>Im
   |exact Bm
   |exact A4
   |skip
def RR(P:Stk->Bool)(l:List Stk):Int:=match l.findIdx? P with
 |some i=>i
 |none=> -1
theorem d83{P:Stk->Bool}{l:List Stk}{i:Nat}(hi:i<l.length)(h:∀j,j<i->P (l.getD j AA.d)=false)(a:P (l.getD i AA.d)=true):RR P l=i:=by
 have:l.findIdx? P=some i:=by
  rw[K3];refine⟨hi,?_,λj b=> ?_⟩
  .simpa[If,hi]using a
  .have:=h j b;have c:j<l.length:=Dj;simpa[If,c]using this
 simp[RR,this]
theorem d2a{P:Stk->Bool}{l:List Stk}(h:∀j,j<l.length->P (l.getD j AA.d)=false):RR P l= -1:=by
 have:l.findIdx? P=none:=by rw[Kg];intro x hx;obtain⟨j,a,rfl⟩:=Jg.1 hx;have:=h j a;simpa[If,a]using this
 simp[RR,this]
theorem d7c(P:Stk->Bool)(l:List Stk):decide (0<=RR P l)=l.any P:=by
 unfold RR;cases h:l.findIdx? P with
 |none=>
  have:=Kg.1 h;have:l.any P=false:=by rw[J5];intro x hx;simpa using this x hx
  rw[this];rfl
 |some i=>
  have:=K3.1 h;obtain⟨a,b,_⟩:=this;have:l.any P=true:=J3.2 ⟨_,Ji a,b⟩;rw[this];simp
def badC(a b c:Int):Bool:= !decide (EH a b c=0)
def Ni(s:Stk):Bool:=badC s.c.x s.c.y s.c.q
def kMv1:AK
 | [.agg [.int .i64 a,.int .i64 b,.int .u8 c,x]]=>match AC.as x with
   |some u=>some (AC.isL u.1 u.2,.bool (badC a b c))
   |none=>none
 |_=>none
def FMv1:Fam:=⟨Stk,λs=>[.agg [.int .i64 s.c.x,.int .i64 s.c.y,.int .u8 s.c.q,.sl 1 s.l.length (AC.row s.l) none]],λ_=>True,λs=>.bool (Ni s)⟩
theorem pMv1:PS 129 kMv1:=by
 refine con [(130,PV)] (by simpa using TO) FMv1 (λ_ _=>none) kMv1 ?_ ?_ Tryz.func129 Dk Dk Dk ?_
 .intro args pre s h d;unfold kMv1 at h;split at h
  .rename_i a b c x;split at h
   .rename_i u e;cases h;refine⟨⟨⟨a,b,c⟩,AC.lst u.1 u.2⟩,⟨⟨Dq,Dq,Dq,AC.as_leL e d,Im⟩,Im⟩,Im,rfl⟩
   .cases h
  .cases h
 .exact Bu
 .rintro(s:Stk) d;refine X0 _ ?_;(repeat' first|constructor|intro h)<;>refine Lm ?_
  all_goals(first
   |exact Im
   |rfl
   |skip)
def YE:AK
 | [x,.clo g []]=>if g=129 then(KD x).map λq=>(q.1,.int .i64 (RR Ni q.2))else none
 |_=>none
def FIdxFS:Fam:=⟨List Stk,λL=>[Eo L,.clo 129 []],λL=>FH L,λL=>.int .i64 (RR Ni L)⟩
def IIdxFS:List Stk->Nat->Option Inv
 |l,2=>some {β:=Nat,ok:=λi=>i<=l.length/\∀j,j<i->Ni (l.getD j AA.d)=false,st:=λi=>⟨[⟨8,none,.int .i64 i⟩,⟨7,none,.int .i64 l.length⟩,⟨1,none,.clo 129 []⟩,⟨0,none,Eo l⟩],[]⟩,μ:=λi=>l.length-i}
 |_,_=>none
theorem pIdxFS:PS 177 YE:=by
 refine con [(129,kMv1)] (by simpa using pMv1) FIdxFS IIdxFS YE ?_ ?_ Tryz.func177 Dk Dk Dk ?_
 .intro args pre s h a;unfold YE at h;split at h
  .split at h
   .rename_i g;subst g;simp only[Hx]at h;obtain⟨⟨q,L⟩,hx,rfl,rfl⟩:=h;obtain⟨h1,h2⟩:=Oe hx a;exact Di
   .cases h
  .cases h
 .exact Bt
 .rintro(l:List Stk) a;replace a:FH l:=a;have hl:l.length<=100000:=a.1;refine X0 _ ?_;(repeat' first|constructor|intro h)<;>refine Lm ?_
  refine⟨(0:Nat),⟨Ix _,λj d=>Dj⟩,?_,?_⟩
  .refine X0 _ ?_;(repeat' first|constructor|intro h)<;>refine Lm ?_
   all_goals first|exact A8|exact A5|skip
  .intro i k;obtain⟨f,c⟩:=k;replace f:i<=l.length:=f;refine X0 _ ?_;(repeat' first|constructor|intro h)<;>refine Lm ?_
   all_goals(try simp only[Hv]at*)
   all_goals(try first
    |exact Ap
    |exact AC.isL_row _
    |exact λ_=>AC.isL_row _
    |exact(d83 Dj c Dp).symm
    |exact(d2a λj d=>c j Dj).symm
    |exact Am)
   refine⟨i+1,⟨by show i+1<=l.length;omega,λj d=> ?_⟩,Dy,?_⟩
   .by_cases e:j<i
    .exact c j e
    .have:j=i:=Dj;subst this;assumption
   .refine X0 _ ?_;(repeat' first|constructor|intro h)<;>refine Lm ?_
    all_goals first|omega|exact A8|exact A5|skip
def c44:AK
 | [x,.clo g []]=>if g=129 then(KD x).map λq=>(q.1,.bool (q.2.any Ni))else none
 |_=>none
def FCntFS:Fam:=⟨List Stk,λL=>[Eo L,.clo 129 []],λL=>FH L,λL=>.bool (L.any Ni)⟩
theorem pCntFS:PS 128 c44:=by
 refine con [(177,YE)] (by simpa using pIdxFS) FCntFS (λ_ _=>none) c44 ?_ ?_ Tryz.func128 Dk Dk Dk ?_
 .intro args pre s h a;unfold c44 at h;split at h
  .split at h
   .rename_i b;subst b;simp only[Hx]at h;obtain⟨⟨q,L⟩,hx,rfl,rfl⟩:=h;obtain⟨h1,h2⟩:=Oe hx a;exact Di
   .cases h
  .cases h
 .exact Bt
 .rintro(l:List Stk) a;replace a:FH l:=a;refine X0 _ ?_;(repeat' first|constructor|intro h)<;>refine Lm ?_
  all_goals(try simp only[RT.lst_row]at*)
  all_goals(first
   |exact⟨AA.isL_row l,a.1,a.2⟩
   |exact d7c _ _
   |skip)
def cmEs(r:Mv)(s:Stk):Int:=GR r.t r.x r.y s.c.x s.c.y s.c.q
def MW(r:Mv)(s:Stk):Stk:=⟨⟨Jo r.t r.x r.y s.c.x s.c.y,KP r.t r.x r.y s.c.x s.c.y,JO r.t s.c.q⟩,s.l⟩
def IY(r:Mv)(L:List Stk):Int:=if DA r.t r.x r.y=0/\L.any Ni=false then(if L.all (λs=>decide (cmEs r s=0))=true then 0 else 3)else 1
def JH(r:Mv)(L:List Stk):List Stk:=if IY r L=0 then Od AA.d AW (L.map (MW r))else []
theorem f5r{r:Mv}{L:List Stk}(h:¬DA r.t r.x r.y=0):IY r L=1:=by unfold IY;rw[if_neg (λa=>h a.1)]
theorem d8x{r:Mv}{L:List Stk}(h:L.any Ni=true):IY r L=1:=by unfold IY;rw[if_neg (λa=>by simp[a.2]at h)]
theorem d0b{r:Mv}{L:List Stk}{i:Nat}(b:DA r.t r.x r.y=0)(c:L.any Ni=false)(hi:i<L.length)(h:¬cmEs r (L.getD i AA.d)=0):IY r L=3:=by unfold IY;rw[Ih ⟨b,c⟩,Ii];intro a;rw[Iq]at a;have:=a _ (Ji hi);rw[Is]at this;apply h;simpa[If,hi]using this
theorem d61{r:Mv}{L:List Stk}(b:DA r.t r.x r.y=0)(c:L.any Ni=false)(h:∀i,i<L.length->cmEs r (L.getD i AA.d)=0):IY r L=0:=by unfold IY;rw[Ih ⟨b,c⟩,Ih];rw[Iq];intro s hs;obtain⟨i,a,rfl⟩:=Jg.1 hs;have:=h i a;simpa[If,a]using this
theorem d7j{r:Mv}{L:List Stk}(h:IY r L≠0):(JH r L).length=0:=by unfold JH;rw[if_neg h];rfl
def Nq(r:Mv)(L:List Stk)(i q:Nat):List SV:=[.int .i64 (if q<i then(MW r (L.getD q AA.d)).c.x else 0),.int .i64 (if q<i then(MW r (L.getD q AA.d)).c.y else 0),.int .u8 (if q<i then(MW r (L.getD q AA.d)).c.q else 0),if q<i then .sl 1 (L.getD q AA.d).l.length (AC.row (L.getD q AA.d).l) none else .con (.slice none 0 0)]
theorem d62{r:Mv}{L:List Stk}{i q:Nat}(h:q<i):Nq r L i q=AA.sv (MW r (L.getD q AA.d)):=by simp only[Nq,Ih h];rfl
theorem d97{r:Mv}{L:List Stk}{i q:Nat}(h:¬q<i):Nq r L i q=c9j:=by simp only[Nq,Ii h];rfl
theorem d9v{r:Mv}{L:List Stk}{q:Nat}(h:q<L.length):Nq r L L.length q=AA.row (L.map (MW r)) q:=by rw[d62 h];simp[RT.row,h]
theorem sm_lst{r:Mv}{L:List Stk}:AA.lst L.length (Nq r L L.length)=L.map (MW r):=by
 have e:AA.lst L.length (Nq r L L.length)=AA.lst L.length (AA.row (L.map (MW r))):=by simp only[RT.lst];apply List.map_congr_left;intro q hq;rw[d9v Fp]
 have k:=RT.lst_row AA (L.map (MW r));rw[Jp]at k;rw[e,k]
theorem sm_isL{r:Mv}{L:List Stk}:AA.isL L.length (Nq r L L.length):=by intro q hq;rw[d9v hq];exact AA.isL_row (L.map (MW r)) q Fp
theorem f03(t Q:Int):AD .u8 (JO t Q):=by simp only[JO,QH];cases LL t Q 3<;>cases LL t Q 2<;>cases LL t Q 1<;>cases LL t Q 0<;>simp[AD]
theorem f6k{r:Mv}{L:List Stk}{i q:Nat}{c:Option Nat}:HC (DH (decide (q=i)) [.int .i64 (Jo r.t r.x r.y (L.getD i AA.d).c.x (L.getD i AA.d).c.y),.int .i64 (KP r.t r.x r.y (L.getD i AA.d).c.x (L.getD i AA.d).c.y),.int .u8 (JO r.t (L.getD i AA.d).c.q),.sl 1 (L.getD i AA.d).l.length (AC.row (L.getD i AA.d).l) c] (Nq r L i q)) (Nq r L (i+1) q):=by
 by_cases e:q=i
 .subst e;rw[d62 (Nat.lt_succ_self _),d97 (Lg _),J7 rfl];right;exact⟨rfl,rfl,rfl,⟨rfl,Ef,G9,λ_ _=>rfl⟩,Im⟩
 .left;rw[J9 e];by_cases h:q<i
  .rw[d62 h,d62 Dj];rfl
  .rw[d97 h,d97 Dj];rfl
def b7n:AK
 | [x,.agg [.int .u8 t,.int .i64 a,.int .i64 b]]=>(KD x).map λq=>(q.1/\0<=t/\t<=255/\∀s∈q.2,AD .u8 s.c.q,.tup [.sl 4 (JH ⟨t,a,b⟩ q.2).length (AA.row (JH ⟨t,a,b⟩ q.2)) none,.int .i64 (IY ⟨t,a,b⟩ q.2)])
 |_=>none
def f4g:Fam:=⟨List Stk×Mv,λ(L,r)=>[Eo L,Ms r],λ(L,r)=>FH L/\0<=r.t/\r.t<=255/\∀s∈L,AD .u8 s.c.q,λ(L,r)=>.tup [.sl 4 (JH r L).length (AA.row (JH r L)) none,.int .i64 (IY r L)]⟩
def f6a:List Stk×Mv->Nat->Option Inv
 |(L,r),5=>some {β:=Nat,ok:=λi=>i<=L.length/\∀j,j<i->cmEs r (L.getD j AA.d)=0,st:=λi=>⟨[⟨23,none,.int .i64 i⟩,⟨22,none,.int .i64 L.length⟩,⟨21,none,Eo L⟩,⟨6,none,.osl 1⟩,⟨3,none,.own 0 0⟩],[.cells 28 [.int .u8 r.t,.int .i64 r.x,.int .i64 r.y],.row 49 4 L.length (Nq r L i) (some L.length)]⟩,μ:=λi=>L.length-i}
 |_,_=>none
theorem f5p:PS 91 b7n:=by
 refine NH {l:=[(19,PB),(128,c44),(105,Tm)],h:=[(74,Ww),(131,b96)],gr:=λid=>bif Nat.beq id 10 then [.fz 4,.flat 1]else []} ⟨by simpa using⟨Se,pCntFS,b4i⟩,Dm,by simpa using⟨c6i,f3e⟩⟩ f4g f6a b7n ?_ ?_ Tryz.func91 Dk Dk Dk ?_
 .intro args pre s h hp;unfold b7n at h;split at h
  .rename_i x t a b;simp only[Hx]at h;obtain⟨⟨q,L⟩,hx,rfl,rfl⟩:=h;obtain⟨E,F⟩:=hp;obtain⟨G,H⟩:=Oe hx E;exact⟨(L,⟨t,a,b⟩),⟨G,G5,Im⟩,⟨H,F⟩,rfl⟩
  .cases h
 .exact Bt
 .rintro⟨L,r⟩ hp;replace hp:FH L/\0<=r.t/\r.t<=255/\∀s∈L,AD .u8 s.c.q:=hp;have n:=hp.1.1;have o:IY r L≠0->(JH r L).length=0:=d7j;refine X0 _ ?_;(repeat' first|constructor|intro h)<;>refine Lm ?_
  all_goals(try simp only[RT.lst_row,Hw,I7,I0]at*)
  all_goals(try first
   |exact⟨hp.2.1,hp.2.2.1⟩
   |exact λ_=>⟨AA.isL_row L,n,hp.1.2⟩
   |exact Ar
   |(have w:IY r L=1:=Or.elim ‹_\/_› f5r d8x
     first|exact w.symm|exact o (by rw[w];decide)))
  have g:DA r.t r.x r.y=0/\L.any Ni=false:=‹_/\_›;refine⟨(0:Nat),⟨Ix _,λj k=>Dj⟩,?_,?_⟩
  .refine X0a _ ?_;(repeat' first|constructor|intro h)<;>refine Lm ?_
   all_goals first|exact B6|(intro q _;exact .inl (by rw[d97 (Ja _)];rfl))|exact A5|rfl|skip
  .rintro i ⟨z,k⟩;replace z:i<=L.length:=z;have hm:i<L.length->L.getD i AA.d∈L:=λh=>H2;by_cases b6:i<L.length
   .have hQ:0<=(L.getD i AA.d).c.q:=by have:=hp.2.2.2 _ (hm b6);simp only[AD]at this;omega
    by_cases m:GR r.t r.x r.y (L.getD i AA.d).c.x (L.getD i AA.d).c.y (L.getD i AA.d).c.q=0
    .refine X0a _ ?_;(repeat' first|constructor|intro h)<;>refine Lm ?_
     all_goals(try simp only[Hv,Hw]at*)
     all_goals(try first
      |exact Bg)
     refine⟨i+1,⟨by show i+1<=L.length;omega,λj bm=> ?_⟩,Dy,?_⟩
     .by_cases e:j<i
      .exact k j e
      .have:j=i:=Dj;subst this;exact m
     .have k0:∀v,keep (GR r.t r.x r.y (L.getD i AA.d).c.x (L.getD i AA.d).c.y (L.getD i AA.d).c.q) v=v:=λv=>by unfold keep;rw[if_pos m]
      refine X0a _ ?_;(repeat' first|constructor|intro h)<;>refine Lm ?_
      all_goals(try simp only[k0])
      all_goals first
       |omega
       |exact A5
       |exact λ_ _=>f6k
       |rfl
       |skip
    .have A:IY r L=3:=d0b g.1 g.2 b6 m;refine X0a _ ?_;(repeat' first|constructor|intro h)<;>refine Lm ?_
     all_goals(try simp only[Hv,Hw]at*)
     all_goals(try first
      |exact Bg
      |exact A.symm
      |exact o (by rw[A];decide))
   .have I:i=L.length:=Dj;subst I;have B:IY r L=0:=d61 g.1 g.2 k;have C:JH r L=Od AA.d AW (L.map (MW r)):=by unfold JH;rw[if_pos B]
    have rz:(JH r L).length=L.length:=by rw[C,(c0f _).1,Jp]
    refine X0a _ ?_;(repeat' first|constructor|intro h)<;>refine Lm ?_
    all_goals(try simp only[Hv,sm_lst,Jp,Hw]at*)
    all_goals(try first
     |exact Bs
     |omega
     |exact B.symm
     |exact⟨sm_isL,n,λs hs=>by obtain⟨u,_,rfl⟩:=J4.1 hs;exact f03 _ _⟩
     |(intro _ _;left;rw[C];done))
def YF(W H:Int):Pt:=⟨keep (AM W H) W,keep (AM W H) H,[]⟩
def c5n:AK
 | [.agg [.int .i64 W,.int .i64 H]]=>some (True,.tup [IG (YF W H),.int .i64 (AM W H)])
 |_=>none
def FEmpty:Fam:=⟨Int×Int,λ(W,H)=>[.agg [.int .i64 W,.int .i64 H]],λ_=>True,λ(W,H)=>.tup [IG (YF W H),.int .i64 (AM W H)]⟩
theorem pEmpty:PS 32 c5n:=by
 refine con [(11,OZ)] (by simpa using Ql) FEmpty (λ_ _=>none) c5n ?_ ?_ Tryz.func32 Dk Dk Dk ?_
 .intro args pre s h a;unfold c5n at h;split at h
  .rename_i W H;cases h;exact⟨(W,H),⟨Dz,Im⟩,Im,rfl⟩
  .cases h
 .exact Bu
 .rintro⟨W,H⟩ a;have k0:AM W H=0->∀v,keep (AM W H) v=v:=λh v=>by unfold keep;rw[if_pos h]
  have k1:¬AM W H=0->∀v,keep (AM W H) v=0:=λh v=>by unfold keep;rw[if_neg h]
  refine X0 _ ?_;(repeat' first|constructor|intro h)<;>refine Lm ?_
  all_goals(try simp only[Hw,I0]at*)
  all_goals(first
   |rfl
   |exact(k0 Dp _).symm
   |exact(k1 Dp _).symm
   |assumption
   |(symm;assumption)
   |skip)
theorem c4a{x:SV}{q:Prop}{L:List Stk}(h:Qf x=some (q,L))(a:q):x.le2 (Eo L):=by unfold Qf at h;simp only[Hx]at h;obtain⟨⟨n,f⟩,hx,rfl,rfl⟩:=h;exact IX (AA.as_le hx a.1)
theorem ov_of(O:OS)(j:Nat):AA.of (LA O j)=(O.getD j dO).1:=by have:AC.lst (O.getD j dO).1.l.length (AC.row (O.getD j dO).1.l)=(O.getD j dO).1.l:=RT.lst_row _ _;show SM (LA O j)=_;unfold LA;have h:AC.as (.sl 1 (O.getD j dO).1.l.length (AC.row (O.getD j dO).1.l) (if(O.getD j dO).2=true then some (O.getD j dO).1.l.length else none))=some ((O.getD j dO).1.l.length,AC.row (O.getD j dO).1.l):=rfl;simp only[SM,h,this]
theorem f0q(O:OS):AA.lst O.length (LA O)=O.map (·.1):=by
 apply Mh
 .simp[RT.lst]
 .intro i h1 a;have b:i<O.length:=by simpa using a
  simp[RT.lst,ov_of,b]
theorem ov_isL(O:OS):AA.isL O.length (LA O):=by intro i _;rw[ov_of];exact .inr ⟨by simp[SV.lf],by simp[SV.lf],by simp[SV.lf],⟨rfl,Ef,Im,λ_ _=>rfl⟩,Im⟩
theorem ov_set{O:OS}{k q:Nat}{d:Cl}{a b:List Int}(g:k<O.length)(hl:a=(O.getD k dO).1.l)(i:(O.getD k dO).1.c=d):
 HC (DH (decide (q=k)) [.int .i64 (O.getD k dO).1.c.x,.int .i64 (O.getD k dO).1.c.y,.int .u8 (O.getD k dO).1.c.q,.sl 1 (a.length+b.length) (λj=>if j<a.length then AC.row a j else AC.row b (j-a.length)) none] (LA O q)) (LA (O.set k (⟨d,a++b⟩,false)) q):=by
 by_cases e:q=k
 .subst e;rw[J7 rfl];have f:(O.set q (⟨d,a++b⟩,false)).getD q dO=(⟨d,a++b⟩,false):=by simp[g]
  have m:LA (O.set q (⟨d,a++b⟩,false)) q=[.int .i64 d.x,.int .i64 d.y,.int .u8 d.q,.sl 1 (a++b).length (AC.row (a++b)) none]:=by unfold LA;rw[f];rfl
  rw[m,i];refine .inr ⟨rfl,rfl,rfl,⟨Jm.symm,Ef,Im,λj _=> ?_⟩,Im⟩;exact c1v AC a b j
 .rw[J9 e];left;have f:(O.set k (⟨d,a++b⟩,false)).getD q dO=O.getD q dO:=by simp[Iw (Ne.symm e)]
  unfold LA;rw[f];rfl
theorem ov_app{O:OS}{x:Stk}{j:Nat}(hj:j<O.length+1):HC (if j<O.length then LA O j else(List.map (λx:Nat×List SV=>x.snd) [(0,[.int .i64 x.c.x,.int .i64 x.c.y,.int .u8 x.c.q,.sl 1 x.l.length (AC.row x.l) (some x.l.length)])].reverse).getD (j-O.length) []) (LA (O++[(x,true)]) j):=by
 left;by_cases e:j<O.length
 .rw[Ih e];unfold LA;simp[It e]
 .have:j=O.length:=Dj;subst this;rw[Ii e,Ka];unfold LA;simp[]
theorem d84{O:OS}{x:Stk}(h:FG O (EV x.c)=none)(q:List Int):Io (SB O) (EV x.c) q=SB (OV O x) q:=by
 unfold Io SB;rw[c3u h];by_cases e:q=EV x.c
 .rw[Ih e,J7 e];rfl
 .rw[Ii e,J9 e];rfl
theorem f5h{S:List Stk}{i q:Nat}{c:Option Nat}:HC (DH (decide (q=i)) [.int .i64 (S.getD i AA.d).c.x,.int .i64 (S.getD i AA.d).c.y,.int .u8 (S.getD i AA.d).c.q,.sl 1 (S.getD i AA.d).l.length (AC.row (S.getD i AA.d).l) c] (AA.row S q)) (AA.row S q):=by
 by_cases e:q=i
 .subst e;rw[J7 rfl];right;exact⟨rfl,rfl,rfl,⟨rfl,Ef,G9,λ_ _=>rfl⟩,Im⟩
 .rw[J9 e];left;rfl
def d9k:AK
 | [x,y]=>match Qf x,Qf y with
   |some (p,A),some (q,B)=>some ((p/\q)/\Pw (A++B),.sl 4 (HR (A++B)).length (AA.row (HR (A++B))) (some (HR (A++B)).length))
   |_,_=>none
 |_=>none
def FOver:Fam:=⟨List Stk×List Stk,λ(A,B)=>[Eo A,Eo B],λ(A,B)=>(FH A/\FH B)/\Pw (A++B),λ(A,B)=>.sl 4 (HR (A++B)).length (AA.row (HR (A++B))) (some (HR (A++B)).length)⟩
def ovMap(O:OS):Blk:=.map (.ints [.i64,.i64,.u8]) false (SB O) (λq=>[.int .i64 (Rj O q)])
def IOver:List Stk×List Stk->Nat->Option Inv
 |(A,B),4=>some {β:=Nat,ok:=λi=>i<=(A++B).length,st:=λi=>⟨[⟨18,none,.int .i64 i⟩,⟨17,none,.int .i64 (A++B).length⟩,⟨16,none,Eo (A++B)⟩,⟨6,none,.osl 2⟩,⟨5,none,.omp 0⟩],[ovMap (oF (A++B) i),.dead,.row 49 4 (oF (A++B) i).length (LA (oF (A++B) i)) none]⟩,μ:=λi=>(A++B).length-i,nl:=[.slot 6 49 4]}
 |(A,B),15=>some {β:=Nat,ok:=λi=>i<=(HR (A++B)).length,st:=λi=>⟨[⟨61,none,.int .i64 i⟩,⟨60,none,.int .i64 (HR (A++B)).length⟩,⟨6,none,.osl 2⟩],[.dead,.dead,.row 49 4 (HR (A++B)).length (AA.row (HR (A++B))) none]⟩,μ:=λi=>(HR (A++B)).length-i}
 |_,_=>none
theorem pOver:PS 35 d9k:=by
 refine NH {l:=[(73,Xu),(74,b94),(79,b0h),(78,b15)],x:=[(75,b9j)],fz:=λd=>Nat.beq d 16||Nat.beq d 74,gr:=λid=>bif Nat.beq id 9 then [.fz 4,.flat 2]else []} ⟨by simpa using⟨f74,f45,c3q,c89⟩,by simpa using f4y,Dm⟩ FOver IOver d9k ?_ ?_ Tryz.func35 Dk Dk Dk ?_
 .intro args pre s h K;unfold d9k at h;split at h
  .rename_i x y;split at h
   .rename_i p A q B hx v;cases h;obtain⟨⟨w,z⟩,M⟩:=K;exact⟨(A,B),⟨c4a hx w,c4a v z,Im⟩,⟨⟨(b40 hx w).2,(b40 v z).2⟩,M⟩,rfl⟩
   .cases h
  .cases h
 .exact Bt
 .rintro⟨A,B⟩ ⟨⟨C,E⟩,F⟩;have N:=F;obtain⟨O,hn,j,P⟩:=N;refine X0 _ ?_;(repeat' first|constructor|intro h)<;>refine Lm ?_
  .refine⟨⟨⟨AA.is_row _,C.1,λs hs=>C.2 s (by rwa[RT.lst_row]at hs)⟩,AA.is_row _,E.1,λs hs=>E.2 s (by rwa[RT.lst_row]at hs)⟩,?_⟩;rw[RT.lst_row,RT.lst_row,<-Jm];exact O
  simp only[RT.lst_row];generalize G:A++B=L at*;refine⟨(0:Nat),Ix _,?_,?_⟩
  .refine X0a _ ?_;(repeat' first|constructor|intro h)<;>refine Lm ?_
   all_goals first|rfl|exact Bb|exact A5|(intro q b;exact absurd b (Ja _))|(intro q b;cases b)|skip
  .intro i f;replace f:i<=L.length:=f;have hF:=(To (L:=L) i f).1;rcases Mg i L.length with g|qz
   .have hx:L.getD i AA.d∈L:=by rw[If,Ig g,K2];exact Ji g
    have ba:(L.getD i AA.d).l.length≠0:=λe=>(j _ hx).2.1 (K8 e);have Q:(L.getD i AA.d).l.length<=100000:=(j _ hx).2.2;cases hf:FG (oF L i) (EV (L.getD i AA.d).c)with
    |some k=>
     have m:SB (oF L i) [(L.getD i AA.d).c.x,(L.getD i AA.d).c.y,(L.getD i AA.d).c.q]=true:=by show (FG (oF L i) (EV (L.getD i AA.d).c)).isSome=true;rw[hf];rfl
     have n:Rj (oF L i) [(L.getD i AA.d).c.x,(L.getD i AA.d).c.y,(L.getD i AA.d).c.q]=k:=by show (((FG (oF L i) (EV (L.getD i AA.d).c)).getD 0:Nat):Int)=k;rw[hf];rfl
     obtain⟨H,R⟩:=Tt hf;have T:=b8j R;obtain⟨U,Q2⟩:=P i k g hf;all_goals refine X0a _ ?_;(repeat' first|constructor|intro h)<;>refine Lm ?_
     all_goals(try simp only[Hv,m,n]at*)
     all_goals(try first
      |contradiction
      |exact Bs
      |exact B4
      |(show k<(oF L i).length;exact H)
      |(intro b;cases b)
      |(refine⟨by rw[Ih U],.inr Dj,Dj,?_⟩;exact LC Dk Dj))
     .refine⟨i+1,Dj,Dj,?_⟩;simp only[Uz g];refine X0a _ ?_;(repeat' first|constructor|intro h)<;>refine Lm ?_
      all_goals first
       |rfl
       |omega
       |(intro q;unfold SB;rw[d45 hf])
       |(intro q _;unfold Rj;rw[d45 hf])
       |(rw[RV hf,K4])
       |(intro q _;rw[RV hf];exact ov_set H rfl T)
       |exact A5
       |skip
    |none=>
     have m:SB (oF L i) [(L.getD i AA.d).c.x,(L.getD i AA.d).c.y,(L.getD i AA.d).c.q]=false:=by show (FG (oF L i) (EV (L.getD i AA.d).c)).isSome=false;rw[hf];rfl
     have n:Rj (oF L i) [(L.getD i AA.d).c.x,(L.getD i AA.d).c.y,(L.getD i AA.d).c.q]=0:=by show (((FG (oF L i) (EV (L.getD i AA.d).c)).getD 0:Nat):Int)=0;rw[hf];rfl
     all_goals refine X0a _ ?_;(repeat' first|constructor|intro h)<;>refine Lm ?_
     all_goals(try simp only[Hv,m,n]at*)
     all_goals(try first
      |contradiction
      |exact Bs
      |exact B4
      |exact⟨AC.isL_row _,Q⟩
      |(intro _;kernel_rfl)
      |exact Aa)
     .refine⟨i+1,Dj,Dj,?_⟩;simp only[Uz g];refine X0a _ ?_;(repeat' first|constructor|intro h)<;>refine Lm ?_
      all_goals first
       |rfl
       |omega
       |(rw[Rd hf];simp;done)
       |exact d84 hf
       |(intro q _
         show DH (decide (q=EV (L.getD i AA.d).c)) [SV.int .i64 ((oF L i).length:Nat)] [SV.int .i64 (Rj (oF L i) q)]=[SV.int .i64 (Rj (OV (oF L i) (L.getD i AA.d)) q)];unfold Rj;rw[c3u hf];by_cases e:q=EV (L.getD i AA.d).c
         .rw[Ih e,J7 e];rfl
         .rw[Ii e,J9 e];rfl)
       |(simp only[RT.lst_row];intro q b;rw[Rd hf];exact ov_app b)
       |exact A5
       |skip
   .have e:i=L.length:=Dj;subst e;refine X0a _ ?_;(repeat' first|constructor|intro h)<;>refine Lm ?_
    all_goals(try simp only[Hv]at*)
    all_goals(try(exfalso;omega))
    .have I:=To (L:=L) L.length (Ir _);rw[f0q];refine⟨ov_isL _,Dj,λs hs=> ?_,oF_key (Ir _)⟩;obtain⟨o,V,rfl⟩:=J4.1 hs;exact I.2.2.1 o V (λc=>AD .u8 c.q) (λs hs=>(j s hs).1)
    .simp only[G,f0q];have I:=(To (L:=L) L.length (Ir _)).1;have W:=@f6q L;have r:=f32 F;have t:GC Pq ((oF L L.length).map (·.1))=HR L:=rfl;rw[t,<-W];generalize u:HR L=S at*;have J:HR (A++B)=S:=by rw[G];exact u
     refine⟨(0:Nat),Ix _,?_,?_⟩
     .exact X1h
     .intro i f;replace f:i<=S.length:=f;have hx:i<S.length->(S.getD i AA.d).l.length<=100000:=λh=>r _ H2;refine X0a _ ?_;(repeat' first|constructor|intro h)<;>refine Lm ?_
      all_goals(try simp only[Hv,RT.lst_row]at*)
      all_goals(try first
       |exact B4
       |(show i<S.length;omega)
       |exact⟨AC.isL_row _,hx Dj⟩
       |exact A5
       |(rw[J];done)
       |(rw[J];exact λ_ _=>.inl rfl))
      refine⟨i+1,Dj,Dj,?_⟩;all_goals refine X0a _ ?_;(repeat' first|constructor|intro h)<;>refine Lm ?_
      all_goals(try simp only[Iy,RT.lst_row])
      all_goals first
       |exact Ak
       |(intro q _;exact f5h)
       |skip
def r0:Mv:=⟨0,0,0⟩
def Jl(W H:Int):Int:=if AM W H=0 then CE ⟨W,H,[]⟩ r0 else AM W H
def ET(W H:Int):List Stk:=(Bo ⟨W,H,[]⟩ r0).mapIdx λi c=>⟨c,[(i:Int)]⟩
def LJ(W H:Int):Pt:=if Jl W H=0 then⟨W,H,[]⟩else⟨0,0,[]⟩
def MA(W H:Int):List Stk:=if Jl W H=0 then HR (ET W H)else []
def OD(l:List Stk)(i q:Nat):List SV:=[.int .i64 (if q<i then(l.getD q AA.d).c.x else 0),.int .i64 (if q<i then(l.getD q AA.d).c.y else 0),.int .u8 (if q<i then(l.getD q AA.d).c.q else 0),if q<i then .sl 1 (l.getD q AA.d).l.length (AC.row (l.getD q AA.d).l) none else .con (.slice none 0 0)]
theorem d6y{l:List Stk}{i q:Nat}(h:q<i):OD l i q=AA.sv (l.getD q AA.d):=by simp only[OD,Ih h];rfl
theorem d7v{l:List Stk}{i q:Nat}(h:¬q<i):OD l i q=c9j:=by simp only[OD,Ii h];rfl
theorem f13{l:List Stk}{q:Nat}(h:q<l.length):OD l l.length q=AA.row l q:=by rw[d6y h];rfl
theorem Xe{W H:Int}{i:Nat}(h:i<(ET W H).length):(ET W H).getD i AA.d=⟨(Bo ⟨W,H,[]⟩ r0).getD i CO.d,[(i:Int)]⟩:=by
 have k:i<(Bo ⟨W,H,[]⟩ r0).length:=by unfold ET at h;rwa[List.length_mapIdx]at h
 unfold ET;simp[k]
theorem f41{W H:Int}{i q:Nat}(hi:i<(ET W H).length):HC (DH (decide (q=i)) [.int .i64 ((Bo ⟨W,H,[]⟩ r0).getD i CO.d).x,.int .i64 ((Bo ⟨W,H,[]⟩ r0).getD i CO.d).y,.int .u8 ((Bo ⟨W,H,[]⟩ r0).getD i CO.d).q,.sl 1 1 (λj=>(List.map (λx:Nat×List SV=>x.snd) [(0,[SV.int .i64 (i:Int)])].reverse).getD j []) (some 1)] (OD (ET W H) i q)) (OD (ET W H) (i+1) q):=by
 by_cases e:q=i
 .subst e;rw[d6y (Nat.lt_succ_self _),d7v (Lg _),J7 rfl,Xe hi];right;refine⟨rfl,rfl,rfl,⟨rfl,Ef,Im,λj hj=> ?_⟩,Im⟩;obtain rfl:j=0:=Dj;rfl
 .left;rw[J9 e];by_cases h:q<i
  .rw[d6y h,d6y Dj];rfl
  .rw[d7v h,d7v Dj];rfl
theorem fl_lst{l:List Stk}:AA.lst l.length (OD l l.length)=l:=by
 have e:AA.lst l.length (OD l l.length)=AA.lst l.length (AA.row l):=by simp only[RT.lst];apply List.map_congr_left;intro q hq;rw[f13 Fp]
 rw[e,RT.lst_row]
theorem fl_is{l:List Stk}:AA.is l.length (OD l l.length):=by intro q a;rw[f13 a];exact AA.is_row l q a
theorem fl_nil:AA.lst 0 (λ_=>[])=[]:=rfl
theorem fl_is0:AA.is 0 (λ_=>[]):=λi a=>absurd a (Ja i)
def flC(W H:Int):List Blk:=[.cells 23 [.int .i64 W,.int .i64 H],.cells 31 [.int .i64 0,.int .i64 0,.con (.slice none 0 0),.int .u8 0,.int .i64 0,.int .i64 0,.con (.slice none 0 0)],.cells 26 [.int .i64 W,.int .i64 H,.sl 3 0 (DS []) none]]
def MH(p:Pt)(r:Mv)(L:List Stk):List SV:=[.int .i64 p.W,.int .i64 p.H,.sl 3 p.l.length (DS p.l) none,.int .u8 r.t,.int .i64 r.x,.int .i64 r.y,.sl 4 L.length (AA.row L) (some L.length)]
def c3d:AK
 | [.agg [.int .i64 W,.int .i64 H]]=>some (AM W H=0->CE ⟨W,H,[]⟩ r0=0->Pw (ET W H),.tup [.agg (MH (LJ W H) r0 (MA W H)),.int .i64 (Jl W H)])
 |_=>none
def f46:Fam:=⟨Int×Int,λ(W,H)=>[.agg [.int .i64 W,.int .i64 H]],λ(W,H)=>AM W H=0->CE ⟨W,H,[]⟩ r0=0->Pw (ET W H),λ(W,H)=>.tup [.agg (MH (LJ W H) r0 (MA W H)),.int .i64 (Jl W H)]⟩
def f69:Int×Int->Nat->Option Inv
 |(W,H),9=>some {β:=Nat,ok:=λi=>i<=(ET W H).length,st:=λi=>⟨[⟨34,none,.int .i64 i⟩,⟨33,none,.int .i64 (ET W H).length⟩,⟨32,none,.sl 3 (Bo ⟨W,H,[]⟩ r0).length (CO.row (Bo ⟨W,H,[]⟩ r0)) none⟩,⟨7,none,.osl 3⟩,⟨4,none,.own 2 0⟩,⟨2,none,.own 1 0⟩],flC W H++[.row 49 4 (ET W H).length (OD (ET W H) i) (some (ET W H).length)]⟩,μ:=λi=>(ET W H).length-i}
 |_,_=>none
theorem c9u:PS 10 c3d:=by
 refine NH {l:=[(32,c5n),(34,b2f),(33,Ve),(35,d9k)],fz:=λd=>Nat.beq d 49,gr:=λid=>bif Nat.beq id 11 then [.fz 5,.flat 3]else(bif Nat.beq id 13 then [.orders]else [])} ⟨by simpa using⟨pEmpty,d4n,c2p,pOver⟩,Dm,Dm⟩ f46 f69 c3d ?_ ?_ Tryz.func10 Dk Dk Dk ?_
 .intro args pre s h g;unfold c3d at h;split at h
  .rename_i W H;cases h;exact⟨(W,H),⟨Dz,Im⟩,g,rfl⟩
  .cases h
 .exact Bu
 .rintro⟨W,H⟩ g;replace g:AM W H=0->CE ⟨W,H,[]⟩ r0=0->Pw (ET W H):=g;have k0:AM W H=0->YF W H=⟨W,H,[]⟩:=λh=>by unfold YF keep;rw[if_pos h,if_pos h]
  have n:(ET W H).length=(Bo ⟨W,H,[]⟩ r0).length:=H5;by_cases hs:AM W H=0
  .have k1:=k0 hs;by_cases e:CE ⟨W,H,[]⟩ r0=0
   .have k:=g hs e;have r:=k.2.1;have a:Jl W H=0:=by unfold Jl;rw[if_pos hs,e]
    have b:LJ W H=⟨W,H,[]⟩:=by unfold LJ;rw[if_pos a]
    have j:MA W H=HR (ET W H):=by unfold MA;rw[if_pos a]
    refine X0 _ ?_;(repeat' first|constructor|intro h)<;>refine Lm ?_
    all_goals(try simp only[CL,Hw,I0,k1]at*)
    all_goals(try first
     |contradiction
     |exact absurd e Dp
     |(refine⟨⟨⟨EY _,by show 0<=100000;omega⟩,λc m=>by cases m⟩,Dj,Dj⟩)
     |(rw[show (⟨0,0,0⟩:Mv)=r0 from rfl,<-n];refine⟨Dj,Dj,?_,Dj⟩;exact Qg Dk Dj Dj))
    refine⟨(0:Nat),Ix _,?_,?_⟩
    .refine X0a _ ?_;(repeat' first|constructor|intro h)<;>refine Lm ?_
     all_goals(try simp only[n,show (⟨0,0,0⟩:Mv)=r0 from rfl])
     all_goals first|exact B6|(intro q _;exact .inl (by rw[d7v (Ja _)];rfl))|exact A5|rfl|skip
    .intro i o;replace o:i<=(ET W H).length:=o;by_cases b6:i<(ET W H).length
     .refine X0a _ ?_;(repeat' first|constructor|intro h)<;>refine Lm ?_
      all_goals(try simp only[Hv]at*)
      all_goals(try first
       |exact Bs
       |exact Ap
       |exact At)
      refine⟨i+1,E1,Dy,?_⟩;all_goals refine X0a _ ?_;(repeat' first|constructor|intro h)<;>refine Lm ?_
      all_goals(try simp only[Iy])
      all_goals first
       |omega
       |exact λ_ _=>f41 Dj
       |exact A5
       |rfl
       |skip
     .obtain rfl:i=(ET W H).length:=Dj;refine X0a _ ?_;(repeat' first|constructor|intro h)<;>refine Lm ?_
      all_goals(try simp only[Hv,fl_lst,fl_nil,M8,b,j]at*)
      all_goals(try first
       |exact Bs
       |omega
       |exact Bm
       |exact⟨⟨⟨fl_is0,Dj,λs hs=>by cases hs⟩,fl_is,r,λs hs=>(k.2.2.1 s hs).2.2⟩,k⟩
       |exact a.symm)
   .have a:Jl W H=CE ⟨W,H,[]⟩ r0:=by unfold Jl;rw[if_pos hs]
    have b:LJ W H=⟨0,0,[]⟩:=by unfold LJ;rw[if_neg (by rw[a];exact e)]
    have j:MA W H=[]:=by unfold MA;rw[if_neg (by rw[a];exact e)]
    refine X0 _ ?_;(repeat' first|constructor|intro h)<;>refine Lm ?_
    all_goals(try simp only[CL,Hw,I0,k1]at*)
    all_goals(first
     |contradiction
     |exact absurd Dp e
     |(refine⟨⟨⟨EY _,by show 0<=100000;omega⟩,λc m=>by cases m⟩,Dj,Dj⟩)
     |(rw[b];done)
     |(rw[b];rfl)
     |(rw[j];rfl)
     |exact a.symm
     |rfl
     |skip)
  .have a:Jl W H=AM W H:=by unfold Jl;rw[if_neg hs]
   have b:LJ W H=⟨0,0,[]⟩:=by unfold LJ;rw[if_neg (by rw[a];exact hs)]
   have j:MA W H=[]:=by unfold MA;rw[if_neg (by rw[a];exact hs)]
   refine X0 _ ?_;(repeat' first|constructor|intro h)<;>refine Lm ?_
   all_goals(try simp only[CL,Hw,I0]at*)
   all_goals(first
    |contradiction
    |(rw[b];done)
    |(rw[b];rfl)
    |(rw[j];rfl)
    |exact a.symm
    |rfl
    |skip)
theorem f0c{L:List Stk}{nA:Nat}(m:∀i j,i<j->j<nA->j<L.length->(L.getD i AA.d).c≠(L.getD j AA.d).c):∀i,i<=L.length->∀o∈oF L i,
 ((o.2=true/\o.1∈L)\/(o.2=false/\∃j,nA<=j/\j<i/\(L.getD j AA.d).c=o.1.c))/\∃j,j<i/\(L.getD j AA.d).c=o.1.c
 |0,_=>by simp[oF]
 |i+1,h=>by
  intro o f;have n:=f0c m i Dj;have q:∀o∈oF L i,((o.2=true/\o.1∈L)\/(o.2=false/\∃j,nA<=j/\j<i+1/\(L.getD j AA.d).c=o.1.c))/\∃j,j<i+1/\(L.getD j AA.d).c=o.1.c:=by
   intro o f;obtain⟨g,j,r,l⟩:=n o f;refine⟨?_,j,Dj,l⟩;rcases g with g|⟨e,j,a,b,c⟩
   .exact .inl g
   .exact .inr ⟨e,j,a,Dj,c⟩
  rw[Uz Dj]at f;cases hf:FG (oF L i) (EV (L.getD i AA.d).c)with
  |some k=>
   obtain⟨s,t⟩:=Tt hf;rw[RV hf]at f;rcases L6 f with f|rfl
   .exact q o f
   .have u:nA<=i:=by
     rcases Mg i nA with v|w
     .obtain⟨_,j,r,l⟩:=n _ (Do (d:=dO) s);exact absurd (l.trans (b8j t)) (m j i r v Dj)
     .exact w
    exact⟨.inr ⟨rfl,i,u,Dj,rfl⟩,i,Dj,rfl⟩
  |none=>
   rw[Rd hf]at f;rcases Jd.1 f with f|f
   .exact q o f
   .simp only[J6]at f;subst f;exact⟨.inl ⟨rfl,Do Dj⟩,i,Dj,rfl⟩
theorem d5a{L:List Stk}{nA:Nat}(g:0<L.length)(m:L.length<=100000)(hs:∀s∈L,AD .u8 s.c.q/\s.l≠[]/\s.l.length<=50000)
 (n:∀i j,i<j->j<nA->j<L.length->(L.getD i AA.d).c≠(L.getD j AA.d).c) (o:∀i j,nA<=i->i<j->j<L.length->(L.getD i AA.d).c≠(L.getD j AA.d).c):Pw L:=by
 refine⟨g,m,λs h=>⟨(hs s h).1,(hs s h).2.1,by have:=(hs s h).2.2;omega⟩,λi k f r=> ?_⟩;obtain⟨t,u⟩:=Tt r;obtain⟨v,_⟩:=f0c n i Dj _ (Do (d:=dO) t);rcases v with⟨e,w⟩|⟨_,j,a,b,c⟩
 .refine⟨e,?_⟩;have a1:=(hs _ w).2.2;have a2:=(hs _ (Do (d:=AA.d) f)).2.2;omega
 .exact absurd (c.trans (b8j u)) (o j i a b f)
theorem d5c{W H:Int}{has:List Int->Bool}{s b:BS}{i e:Int}(c:∀q,has q=false)(h:JZ W H has s i e=some b)(a:∀m∈s.out,m=AE.d):∀m∈b.out,m=AE.d:=by
 have f:HJ W H has (s.out.getD i.toNat AE.d) i e=AE.d:=by
  unfold HJ;rw[c,cond_false,If];cases hg:s.out[i.toNat]? with
  |none=>rfl
  |some m=>exact a m (Ik hg)
 unfold JZ at h;split at h
 .simp only at h;split at h
  .cases h;cases s.kn.getD (AF W H i e).toNat false with
   |true=>exact a
   |false=>
    simp only[cond_false];exact b32 (q:=λm=>m=AE.d) a f
  .cases h
 .cases h;exact a
theorem c50{W H:Int}{has:List Int->Bool}{i:Int}(c:∀q,has q=false):∀(l:List Int) {s a:BS},LH W H has i l s=some a->(∀m∈s.out,m=AE.d)->∀m∈a.out,m=AE.d
 | [],s,a,h,b=>by cases h;exact b
 |e::l,s,a,h,b=>by simp only[LH,Ip]at h;obtain⟨s1,f,g⟩:=h;exact c50 c l g (d5c c f b)
theorem f0v{W H:Int}{has:List Int->Bool}(b:∀q,has q=false):∀(f:Nat) {s:BS} {l:List Mv},HM W H has f s=some l->(∀m∈s.out,m=AE.d)->∀m∈l,m=AE.d
 |0,s,l,h,a=>by
  simp only[HM]at h;split at h<;>cases h
  exact a
 |f+1,s,l,h,a=>by
  simp only[HM]at h;split at h
  .cases h;exact a
  .simp only[Ip]at h;obtain⟨s1,c,e⟩:=h;exact f0v b f e (c50 b _ c (s:=⟨s.out,s.kn,_⟩) a)
theorem d5f{W H:Int}:∀m∈AY ⟨W,H,[]⟩,m=AE.d:=by
 unfold AY;cases h:MB ⟨W,H,[]⟩with
 |none=>simp
 |some l=>
  refine f0v (λq=>rfl) _ h (λm a=> ?_);exact(List.mem_replicate.1 a).2
theorem d5r{W H i j:Int}(hs:AM W H=0)(c:0<=i)(h:i<4*W*H)(k0:0<=j)(k:j<4*W*H)(e:AH W H i=AH W H j):i=j:=by rw[IK hs c h,IK hs k0 k]at e;simp only[Cl.mk.injEq]at e;obtain⟨d,f,e3⟩:=e;have a:=Lj (i/4) W;have b:=Lj (j/4) W;rw[d,f]at a;omega
theorem c7f{W H:Int}(hs:AM W H=0)(a:CE ⟨W,H,[]⟩ r0=0):(Bo ⟨W,H,[]⟩ r0).Nodup:=by
 have P:=Qb (p:=⟨W,H,[]⟩) (r:=r0) Dn a;have hN:=DB hs;have ww:(Bo ⟨W,H,[]⟩ r0).length=AG W H:=P.il;have hrl:=(RW a).1;have fq:(BL ⟨W,H,[]⟩ r0).length=AG W H:=P.pl;have one:∀i:Nat,i<AG W H->(BL ⟨W,H,[]⟩ r0).getD i AE.d=GG AE.d r0:=λi b=>by rw[(RW a).2 i Dj];unfold JJ;rw[d5f _ (Do (d:=AE.d) (show i<(AY ⟨W,H,[]⟩).length from Dj))]
 refine Jr.2 λi j b k dt e=> ?_;have f:=P.im i (by show i<AG W H;omega);have g:=P.im j (by show j<AG W H;omega);rw[If,Ig b,K2,one i Dj]at f;rw[If,Ig k,K2,one j Dj]at g;have vm:=P.vm 0 (by show 0<AG W H;omega);rw[one 0 Dj]at vm;have l:=f.1.symm.trans (e.trans g.1);have ci:=IH hs (i:=(i:Int)) Dj Dj;have cj:=IH hs (i:=(j:Int)) Dj Dj;have m:=f5g (c:=AH W H i) hs Dj Dj Dj;have n:=f5g (c:=AH W H j) hs Dj Dj Dj;have:=d5r hs Dj Dj Dj Dj (c8z vm m n l);omega
theorem d67{W H:Int}(hs:AM W H=0)(b:CE ⟨W,H,[]⟩ r0=0):Pw (ET W H):=by
 have P:=Qb (p:=⟨W,H,[]⟩) (r:=r0) Dn b;have hN:=DB hs;have ww:(Bo ⟨W,H,[]⟩ r0).length=AG W H:=P.il;have kl:(ET W H).length=(Bo ⟨W,H,[]⟩ r0).length:=H5;have l:=c7f hs b;have f:∀i j,i<j->j<(ET W H).length->((ET W H).getD i AA.d).c≠((ET W H).getD j AA.d).c:=λi j m n e=>by rw[Xe n,Xe (show i<(ET W H).length from Dj)]at e;have:=Jr.1 l i j Dj Dj m;apply this;simpa[If,Ig (show i<(Bo ⟨W,H,[]⟩ r0).length from Dj),Ig (show j<(Bo ⟨W,H,[]⟩ r0).length from Dj)]using e
 refine d5a (nA:=(ET W H).length) Dj Dj (λs o=> ?_) (λi j g k a=>f i j g a) (λi j g k a=>f i j k a);obtain⟨i,q,rfl⟩:=Ou (d:=AA.d) o;rw[Xe q];have:=(P.im i (by show i<AG W H;omega)).2.2.2;refine⟨Er,Dm,Dm⟩
def c4p:AK
 | [.agg [.int .i64 W,.int .i64 H]]=>some (True,.tup [.agg (MH (LJ W H) r0 (MA W H)),.int .i64 (Jl W H)])
 |_=>none
theorem d5e:PS 10 c4p:=by
 refine⟨c9u.1,λA w args a pre s c d e b hp=> ?_⟩;unfold c4p at b;split at b
 .rename_i W H;cases b;exact c9u.2 A w _ a _ _ c d e rfl (λf g=>d67 f g)
 .cases b
section
variable{W H:Int} (hs:AM W H = 0)
include hs
theorem XH:StG ⟨W,H,[]⟩ Bl (BE W H) (λ_=>Bl) 256:=f0d hs (by have:=HE hs;omega)
theorem d11:CE ⟨W,H,[]⟩ r0=0:=((XH hs).places Dj).1
theorem fl_chk:FJ ⟨W,H,[]⟩ Bl (BE W H)=0:=(XH hs).valid Dj
theorem c6b:Jl W H=0:=by unfold Jl;rw[if_pos hs];exact d11 hs
theorem flS_eq:ET W H=BE W H:=by
 have X:=XH hs;have hN:=DB hs;have P:=Qb (p:=⟨W,H,[]⟩) (r:=r0) Dn (d11 hs);have ww:(Bo ⟨W,H,[]⟩ r0).length=AG W H:=P.il;have kl:(ET W H).length=(Bo ⟨W,H,[]⟩ r0).length:=H5;have kl0:(BE W H).length=AG W H:=by unfold BE;simp
 have j:=(X.places Dj).2;apply Mh
 .omega
 .intro i f k;have a:i<AG W H:=Dj;have l:(ET W H)[i]=(ET W H).getD i AA.d:=by rw[If,Ig f];rfl
  have g0:(BE W H).getD i AA.d=⟨AH W H (i:Int),[(i:Int)]⟩:=by unfold BE;simp[List.getD_eq_getElem?_getD,a]
  have b:(BE W H)[i]=(BE W H).getD i AA.d:=by rw[If,Ig k];rfl
  have m:=b.trans g0;have e:AU ⟨W,H,[]⟩ (i:Int):=⟨Dj,by show (i:Int)<4*W*H;omega⟩
  have n:(BL ⟨W,H,[]⟩ r0).getD i AE.d=Bl:=j i e;have g:=(P.im i a).1;have ci:=IH hs (i:=(i:Int)) Dj e.2;have vi:=f5g (c:=AH W H i) hs Dj Dj Dj;have vm:=P.vm i a;have o:DF ((BL ⟨W,H,[]⟩ r0).getD i AE.d) (AH W H i)=AH W H i:=by have hw:=HE hs;rw[Vg vm Dj,n];exact f0r (LN (p:=⟨W,H,[]⟩) hs e)
  rw[l,m,Xe f,g];show (⟨DF ((BL ⟨W,H,[]⟩ r0).getD i AE.d) (AH W H i),[(i:Int)]⟩:Stk)=_;rw[o]
theorem f1a:MA W H=BE W H:=by have X:=XH hs;have a:RZ Pq (BE W H):=pw_of X.lt;unfold MA HR;rw[Ih (c6b hs),flS_eq hs];have e:=ov_mrg (A:=BE W H) (B:=[]) X.cells;rw[List.append_nil]at e;have b:(oF (BE W H) (BE W H).length).map (·.1)=BE W H:=e;rw[b];exact d3u _ _ (d7m (f6z X.cells)) a λx=>Qp _ _ _
theorem f0k:LJ W H=⟨W,H,[]⟩:=by unfold LJ;rw[if_pos (c6b hs)]
end
theorem fl_no{W H:Int}(hs:¬AM W H=0):Jl W H=AM W H/\LJ W H=⟨0,0,[]⟩/\MA W H=[]:=by
 have e:Jl W H=AM W H:=by unfold Jl;rw[if_neg hs]
 unfold LJ MA;rw[e,Ii hs,Ii hs];exact⟨rfl,rfl,rfl⟩
def kDif:AK
 | [x,y]=>match KU x,KU y with
   |some (q,p,r,L),some (a,b,c,d)=>some ((q/\a)/\b=p/\c=r/\d=L,.int .i64 0)
   |_,_=>none
 |_=>none
def FDif:Fam:=⟨Pt×Mv×List Stk,λ(p,r,L)=>[.agg (EF p r L),.agg (EF p r L)],λ(p,r,L)=>EL p r/\FK L,λ_=>.int .i64 0⟩
def f6y(a:List Entry):List Entry:=a++[⟨5,none,.int .i64 0⟩,⟨3,none,.own 1 0⟩,⟨2,none,.own 0 0⟩]
def f7p(p:Pt)(r:Mv)(L:List Stk)(a:List Blk):List Blk:=[.cells 31 (EF p r L),.cells 31 (EF p r L)]++a
def IDif:Pt×Mv×List Stk->Nat->Option Inv
 |(p,r,L),7=>some {β:=Nat,ok:=λi=>i<=p.l.length,st:=λi=>⟨f6y [⟨6,none,.int .i64 i⟩],f7p p r L []⟩,μ:=λi=>p.l.length-i}
 |(p,r,L),12=>some {β:=Nat,ok:=λi=>i<=L.length,st:=λi=>⟨f6y [⟨7,none,.int .i64 i⟩],f7p p r L []⟩,μ:=λi=>L.length-i,sub:=λi=>some fun
  |18=>some {β:=Nat,ok:=λk=>i<L.length/\k<=(L.getD i AA.d).l.length,st:=λk=>⟨f6y [⟨10,none,.int .i64 k⟩,⟨9,none,.own 3 0⟩,⟨8,none,.own 2 0⟩,⟨7,none,.int .i64 i⟩],f7p p r L [.cells CC (AA.sv (L.getD i AA.d)),.cells CC (AA.sv (L.getD i AA.d))]⟩,μ:=λk=>(L.getD i AA.d).l.length-k}
  |_=>none}
 |_,_=>none
theorem pDif:PS 13 kDif:=by
 refine con [] Dm FDif IDif kDif ?_ ?_ Tryz.func13 Dk Dk Dk ?_
 .intro args pre s h f;unfold kDif at h;split at h
  .split at h
   .rename_i q p r L q' g j m hx n;cases h;obtain⟨⟨o,u⟩,rfl,rfl,rfl⟩:=f;obtain⟨v,w,x⟩:=PD hx o;obtain⟨y,_,_⟩:=PD n u;exact⟨(g,j,m),⟨v,y,Im⟩,⟨w,x⟩,rfl⟩
   .cases h
  .cases h
 .exact Bt
 .rintro⟨p,r,L⟩ ⟨z,A⟩;have hl:=z.1.1;have e:=A.1;have hLn:L.length<=100000:=e.1;have B:∀i,(L.getD i AA.d).l.length<=100000:=λi=>QU e i;refine X0a _ ?_;(repeat' first|constructor|intro h)<;>refine Lm ?_
  all_goals(try first
   |(exfalso;simp at h;done)
   |(exfalso;have C:=‹(!(decide (r.t=r.t)&&_))=true›;simp at C;done)
   |exact Ap)
  refine⟨(0:Nat),Ix _,?_,?_⟩
  .exact X1h
  .intro i b;replace b:i<=p.l.length:=b;refine X0a _ ?_;(repeat' first|constructor|intro h)<;>refine Lm ?_
   all_goals(try simp only[Hv]at*)
   all_goals(try first
    |(exfalso;simp at h;done)
    |exact B4)
   .refine⟨i+1,E1,Dy,?_⟩;exact X2
   .refine⟨(0:Nat),Ix _,?_,?_⟩
    .exact X1h
    .intro i b;replace b:i<=L.length:=b;refine X0a _ ?_;(repeat' first|constructor|intro h)<;>refine Lm ?_
     all_goals(try simp only[Hv]at*)
     all_goals(try first
      |(exfalso;simp at h;done)
      |exact B4)
     all_goals first
      |(refine⟨(0:Nat),⟨Dj,Ix _⟩,?_,?_⟩
        .exact X1h
        .intro k c;replace c:i<L.length/\k<=(L.getD i AA.d).l.length:=c;have Z4:=B i;refine X0a _ ?_;(repeat' first|constructor|intro h)<;>refine Lm ?_
         all_goals(try simp only[Hv]at*)
         all_goals(try first
          |(exfalso;simp at h;done)
          |exact B4)
         all_goals first
          |(refine⟨k+1,⟨c.1,Dj⟩,Fi,?_⟩
            all_goals refine X0a _ ?_;(repeat' first|constructor|intro h)<;>refine Lm ?_
            all_goals first|exact Ak|skip)
          |(refine⟨i+1,E1,Dy,?_⟩
            all_goals refine X0a _ ?_;(repeat' first|constructor|intro h)<;>refine Lm ?_
            all_goals first|exact Ak|skip)
          |skip)
      |skip
end Go.Proofs.YtngppkidkigcbaaGreatDoor.V
