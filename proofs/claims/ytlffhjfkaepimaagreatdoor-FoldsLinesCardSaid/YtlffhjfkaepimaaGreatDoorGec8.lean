/-
  Parts of the proof: A33 A34 A35 A36 A37 A40 A42 C25 C26 C28 C27 C27a C27b C27c C27d C27e C29 Y1 Y2 Y3 Y4 Y5 Y6 Y7 Y8 D5 D6 D7 D8 Q8 D12 D10 D9 D11 D13 D14 D15 D16 D17 D18 D19 D20 Y9 Y10 Y11 Y12 Y13 Y14 Y15 Y16 D22. Conditions: none.
-/
import Derived.Test.YtlffhjfkaepimaaGreatDoorGec3
import Derived.Test.YtlffhjfkaepimaaGreatDoorGec5
import Derived.Test.YtlffhjfkaepimaaGreatDoorGec6
import Derived.Test.YtlffhjfkaepimaaGreatDoorGec7
set_option maxRecDepth 100000
set_option maxHeartbeats 40000000
namespace Go.Proofs.YtlffhjfkaepimaaGreatDoor.V
open Go
theorem pSym:∀F,HS 174 (TQ F)
 |0=>by
  refine⟨⟨_,Tryz.func174,E1,E1⟩,λA w args vals own μ r _ _ _ _ _ h a=> ?_⟩;unfold TQ at h;split at h
  .split at h
   .cases h;obtain⟨p1,p2,p3,p4,p5,p6,p7,p8⟩:=a;exfalso;omega
   .cases h
  .cases h
 |F+1=>pSym1 F (pSym F)
def g29:HK:=λa own=>match own with
 |.row T b n g c::o=>TQ n a (.row T b n g c::o)
 |_=>none
theorem pSymN:HS 174 g29:=by
 refine⟨(pSym 0).1,λA w a b own c r d e f g i h j=> ?_⟩;unfold g29 at h;split at h
 .exact(pSym _).2 A w a b _ c r d e f g i h j
 .cases h
section
variable{α:Type}{d:α}{lt:α->α->Bool}
theorem f9a{n f a:Nat}{L:List α}(h:a+20<=n):Ph d lt n (f+1) a L=Ph d lt n f (a+20) (HP d lt a (a+20) L):=by rw[Ph,Ji h]
theorem d3w{n f a:Nat}{L:List α}(h:¬a+20<=n):Ph d lt n f a L=HP d lt a n L:=by
 cases f with
 |zero=>rfl
 |succ f=>rw[Ph,Jj h]
theorem f8z{n b f a:Nat}{L:List α}(h:a+2*b<=n):MD d lt n b (f+1) a L=MD d lt n b f (a+2*b) (EV d lt n a (a+b) (a+2*b) L):=by rw[MD,Ji h]
theorem d5z{n b f a:Nat}{L:List α}(h:¬a+2*b<=n)(k:a+b<n):MD d lt n b f a L=EV d lt n a (a+b) n L:=by
 cases f with
 |zero=>rw[MD,Ji k]
 |succ f=>rw[MD,Jj h,Ji k]
theorem d7z{n b f a:Nat}{L:List α}(h:¬a+2*b<=n)(k:¬a+b<n):MD d lt n b f a L=L:=by
 cases f with
 |zero=>rw[MD,Jj k]
 |succ f=>rw[MD,Jj h,Jj k]
theorem g05{n f a:Nat}{L:List α}(h:a<n):PR d lt n (f+1) a L=PR d lt n f (2*a) (MD d lt n a n 0 L):=by rw[PR,Ji h]
theorem d40{n f a:Nat}{L:List α}(h:¬a<n):PR d lt n f a L=L:=by
 cases f with
 |zero=>rfl
 |succ f=>rw[PR,Jj h]
end
def hStb:HK:=λa own=>match a,own with
 | [.osl 0,.int .i64 k,.clo f []],[.row T 4 n g _]=>if T=DR/\f=68 then some ⟨AA.isL n g/\n<=100000/\k=n/\(∀s∈AA.lst n g,AD .u8 s.c.q),.tup [],[.row DR 4 (AA.lst n g).length (AA.row (Qm AA.d Ao (AA.lst n g))) none],[]⟩else none
 |_,_=>none
def FStb:FamH:=⟨List Stk,λ(l:List Stk)=>[.osl 0,.int .i64 (l.length:Int),.clo 68 []],λ(l:List Stk)=>[.row DR 4 l.length (AA.row l) none],λ(l:List Stk)=>l.length<=100000/\∀s∈l,AD .u8 s.c.q,λ_=>.tup [],λ(l:List Stk)=>[.row DR 4 l.length (AA.row (Qm AA.d Ao l)) none],[]⟩
def IStb:List Stk->Nat->Option Inv
 |l,2=>some {β:=Nat×Nat×List Stk,ok:=λ(f,a,L)=>Sub L l/\a<=l.length/\l.length-a<=f/\Ph AA.d Ao l.length f a L=Ph AA.d Ao l.length l.length 0 l,st:=λ(_,a,L)=>⟨[⟨8,none,.int .i64 ((a:Int)+20)⟩,⟨7,none,.int .i64 a⟩,⟨6,none,.int .i64 20⟩,⟨2,none,.clo 68 []⟩,⟨1,none,.int .i64 (l.length:Int)⟩,⟨0,none,.osl 0⟩],[.row DR 4 l.length (AA.row L) none]⟩,μ:=λ(f,_)=>f}
 |l,7=>some {β:=Nat×Nat×List Stk,ok:=λ(f,b,L)=>Sub L l/\20<=b/\b<=2*l.length+40/\l.length<=b+f/\PR AA.d Ao l.length f b L=Qm AA.d Ao l,st:=λ(_,b,L)=>⟨[⟨6,none,.int .i64 b⟩,⟨2,none,.clo 68 []⟩,⟨1,none,.int .i64 (l.length:Int)⟩,⟨0,none,.osl 0⟩],[.row DR 4 l.length (AA.row L) none]⟩,μ:=λ(f,_)=>f,sub:=λ(f,b,_)=>some fun
  |9=>some {β:=Nat×Nat×List Stk,ok:=λ(g,a,M)=>Sub M l/\a<=l.length/\l.length-a<=g/\b<l.length/\PR AA.d Ao l.length (f-1) (2*b) (MD AA.d Ao l.length b g a M)=Qm AA.d Ao l,st:=λ(_,a,M)=>⟨[⟨8,none,.int .i64 ((a:Int)+2*b)⟩,⟨7,none,.int .i64 a⟩,⟨6,none,.int .i64 b⟩,⟨2,none,.clo 68 []⟩,⟨1,none,.int .i64 (l.length:Int)⟩,⟨0,none,.osl 0⟩],[.row DR 4 l.length (AA.row M) none]⟩,μ:=λ(g,_)=>g}
  |_=>none}
 |_,_=>none
theorem pStb:HS 125 hStb:=by
 refine JO {h:=[(174,g29),(173,hIns)]} ⟨E2,E2,by simpa using⟨pSymN,pIns⟩⟩ FStb IStb hStb ?_ ?_ ?_ Tryz.func125 E1 E1 E1 ?_
 .intro args own r h w;unfold hStb at h;split at h
  .rename_i k f T n g c;split at h
   .rename_i E;obtain⟨rfl,rfl⟩:=E;cases h;obtain⟨F,p2,p3,G⟩:=w;have hl:=RT.lst_length AA n g;exact⟨AA.lst n g,⟨Ea,En,Ea,Jm⟩,rfl,Xc F,⟨Dz,G⟩,rfl,rfl,rfl⟩
   .cases h
  .cases h
 .exact C1
 .exact C5
 .rintro(l:List Stk) μ w;replace w:l.length<=100000/\∀s∈l,AD .u8 s.c.q:=w;obtain⟨h0,h5⟩:=w;have o:∀L:List Stk,L.length=l.length->AA.lst l.length (AA.row L)=L:=λL e=>by rw[<-e];exact RT.lst_row _ _
  have sw:∀L:List Stk,L.length=l.length->AA.isL l.length (AA.row L):=λL e=>by rw[<-e];exact AA.isL_row L
  refine X0a _ ?_;(repeat' first|constructor|intro h)<;>refine Lm ?_
  all_goals(try simp only[]at*)
  all_goals(try first
   |exact Am)
  refine⟨(l.length,0,l),⟨Sub.refl l,Jw _,by show l.length-0<=l.length;omega,rfl⟩,?_,?_⟩
  .exact X3a
  .rintro⟨f,a,L⟩ k;replace k:Sub L l/\a<=l.length/\l.length-a<=f/\Ph AA.d Ao l.length f a L=Ph AA.d Ao l.length l.length 0 l:=k;obtain⟨k1,k2,k3,k4⟩:=k;have x:=k1.1;have t:((a:Int)+20).toNat=a+20:=Dz;by_cases u:a+20<=l.length
   .obtain⟨f,rfl⟩:∃A,f=A+1:=⟨f-1,Dz⟩
    rw[f9a u]at k4;have y:=(Xf (d:=AA.d) (lt:=Ao) (a:=a) (b:=a+20) (l:=L) Dz).trans k1;refine X0b _ ?_;(repeat' first|constructor|intro h)<;>refine Lm ?_
    all_goals(try simp only[Ir,t,o,k1.1]at*)
    all_goals(try first
     |exact Bg)
    refine⟨(f,a+20,HP AA.d Ao a (a+20) L),⟨y,u,by show l.length-(a+20)<=f;omega,k4⟩,Ei,?_⟩;all_goals exact X3b
   .rw[d3w u]at k4;have y:=(Xf (d:=AA.d) (lt:=Ao) (a:=a) (b:=l.length) (l:=L) Dz).trans k1;refine X0b _ ?_;(repeat' first|constructor|intro h)<;>refine Lm ?_
    all_goals(try simp only[Ir,t,o,k1.1]at*)
    all_goals(try first
     |exact Bg)
    refine⟨(l.length,20,HP AA.d Ao a l.length L),⟨y,Jp _,by show 20<=2*l.length+40;omega,by show l.length<=20+l.length;omega,by show PR AA.d Ao l.length l.length 20 (HP AA.d Ao a l.length L)=_;rw[k4];rfl⟩,?_,?_⟩
    .exact X3b
    .clear k1 k2 k3 k4 x y t u;rintro⟨f,j,L⟩ k;replace k:Sub L l/\20<=j/\j<=2*l.length+40/\l.length<=j+f/\PR AA.d Ao l.length f j L=Qm AA.d Ao l:=k;obtain⟨k1,k2,k3,k4,k5⟩:=k;have x:=k1.1;by_cases z:j<l.length
     .obtain⟨f,rfl⟩:∃A,f=A+1:=⟨f-1,Dz⟩
      rw[g05 z]at k5;refine X0b _ ?_;(repeat' first|constructor|intro h)<;>refine Lm ?_
      all_goals(try simp only[Ir,k1.1]at*)
      all_goals(try first
       |exact Am)
      refine⟨(l.length,0,L),⟨k1,Jw _,by show l.length-0<=l.length;omega,z,k5⟩,?_,?_⟩
      .exact X3a
      .clear k1 k5 x;rintro⟨g,a,L⟩ k;replace k:Sub L l/\a<=l.length/\l.length-a<=g/\j<l.length/\PR AA.d Ao l.length f (2*j) (MD AA.d Ao l.length j g a L)=Qm AA.d Ao l:=k;obtain⟨k1,k6,k7,k8,k9⟩:=k;have x:=k1.1;have t:((a:Int)+j).toNat=a+j:=Dz;have v:((a:Int)+2*j).toNat=a+2*j:=Dz;by_cases u:a+2*j<=l.length
       .obtain⟨g,rfl⟩:∃H,g=H+1:=⟨g-1,Dz⟩
        rw[f8z u]at k9;have B:=(MW (d:=AA.d) (lt:=Ao) l.length a (a+j) (a+2*j) L Dz Dz Dz).trans k1;refine X0b _ ?_;(repeat' first|constructor|intro h)<;>refine Lm ?_
        all_goals(try simp only[Ir,t,v,o,k1.1]at*)
        all_goals(try first
         |exact Ay)
        refine⟨(g,a+2*j,EV AA.d Ao l.length a (a+j) (a+2*j) L),⟨B,u,by show l.length-(a+2*j)<=g;omega,z,k9⟩,by show g<g+1;omega,?_⟩;all_goals exact X3c
       .by_cases C:a+j<l.length
        .rw[d5z u C]at k9;have B:=(MW (d:=AA.d) (lt:=Ao) l.length a (a+j) l.length L Dz Dz Dz).trans k1;refine X0b _ ?_;(repeat' first|constructor|intro h)<;>refine Lm ?_
         all_goals(try simp only[Ir,t,v,o,k1.1]at*)
         all_goals(try first
          |exact Ay)
         refine⟨(f,2*j,EV AA.d Ao l.length a (a+j) l.length L),⟨B,by show 20<=2*j;omega,by show 2*j<=_;omega,by show l.length<=2*j+f;omega,k9⟩,Ei,?_⟩;all_goals exact X3c
        .rw[d7z u C]at k9;refine X0b _ ?_;(repeat' first|constructor|intro h)<;>refine Lm ?_
         all_goals(try simp only[Ir,t,v,o,k1.1]at*)
         all_goals(try first
          |exact Ay)
         refine⟨(f,2*j,L),⟨k1,by show 20<=2*j;omega,by show 2*j<=_;omega,by show l.length<=2*j+f;omega,k9⟩,Ei,?_⟩;all_goals exact X3c
     .rw[d40 z]at k5;refine X0b _ ?_;(repeat' first|constructor|intro h)<;>refine Lm ?_
      all_goals(try simp only[Ir,k1.1]at*)
      all_goals(try first
       |exact Am
       |(intro _ _;left;rw[<-k5];done))
def c1e:HK:=λa own=>match a,own with
 | [.osl 0,.clo f []],[.row T 4 n g _]=>if T=DR/\f=68 then some ⟨AA.isL n g/\n<=100000/\(∀s∈AA.lst n g,AD .u8 s.c.q),.tup [],[.row DR 4 (AA.lst n g).length (AA.row (Qm AA.d Ao (AA.lst n g))) none],[]⟩else none
 |_,_=>none
def g1r:FamH:=⟨List Stk,λ_=>[.osl 0,.clo 68 []],λ(l:List Stk)=>[.row DR 4 l.length (AA.row l) none],λ(l:List Stk)=>l.length<=100000/\∀s∈l,AD .u8 s.c.q,λ_=>.tup [],λ(l:List Stk)=>[.row DR 4 l.length (AA.row (Qm AA.d Ao l)) none],[]⟩
theorem f9i:HS 67 c1e:=by
 refine JO {h:=[(125,hStb)]} ⟨E2,E2,by simpa using pStb⟩ g1r (λ_ _=>none) c1e ?_ ?_ ?_ Tryz.func67 E1 E1 E1 ?_
 .intro args own r h a;unfold c1e at h;split at h
  .rename_i f T n g c;split at h
   .rename_i j;obtain⟨rfl,rfl⟩:=j;cases h;obtain⟨k,p2,m⟩:=a;have hl:=RT.lst_length AA n g;exact⟨AA.lst n g,⟨Ea,Ea,Jm⟩,rfl,Xc k,⟨Dz,m⟩,rfl,rfl,rfl⟩
   .cases h
  .cases h
 .exact Bz
 .exact C5
 .rintro(l:List Stk) μ a;replace a:l.length<=100000/\∀s∈l,AD .u8 s.c.q:=a;obtain⟨b,d⟩:=a;have o:AA.lst l.length (AA.row l)=l:=RT.lst_row _ _;have e:AA.isL l.length (AA.row l):=AA.isL_row l;refine X0a _ ?_;(repeat' first|constructor|intro h)<;>refine Lm ?_
  all_goals(try simp only[o])
  all_goals first
   |exact⟨e,b,Jm,d⟩
   |exact⟨e,b,rfl,d⟩
   |exact Bs
   |exact Ba
   |exact A6
   |skip
def Tp(P:Stk->Bool)(l:List Stk):Int:=match l.findIdx? P with
 |some i=>i
 |none=> -1
theorem f3s{P:Stk->Bool}{l:List Stk}{i:Nat}(hi:i<l.length)(h:∀j,j<i->P (l.getD j AA.d)=false)(a:P (l.getD i AA.d)=true):Tp P l=i:=by
 have:l.findIdx? P=some i:=by
  rw[L7];refine⟨hi,?_,λj b=> ?_⟩
  .simpa[Jg,hi]using a
  .have:=h j b;have c:j<l.length:=Dz;simpa[Jg,c]using this
 simp[Tp,this]
theorem d6x{P:Stk->Bool}{l:List Stk}(h:∀j,j<l.length->P (l.getD j AA.d)=false):Tp P l= -1:=by
 have:l.findIdx? P=none:=by rw[Lu];intro x hx;obtain⟨j,a,rfl⟩:=Kg.1 hx;have:=h j a;simpa[Jg,a]using this
 simp[Tp,this]
theorem f34(P:Stk->Bool)(l:List Stk):decide (0<=Tp P l)=l.any P:=by
 unfold Tp;cases h:l.findIdx? P with
 |none=>
  have:=Lu.1 h;have:l.any P=false:=by rw[K2];intro x hx;simpa using this x hx
  rw[this];rfl
 |some i=>
  have:=L7.1 h;obtain⟨a,b,_⟩:=this;have:l.any P=true:=K1.2 ⟨_,Kj a,b⟩;rw[this];simp
def badC(a b c:Int):Bool:= !decide (BG a b c=0)
def OM(s:Stk):Bool:=badC s.c.x s.c.y s.c.q
def kMv1:AH
 | [.agg [.int .i64 a,.int .i64 b,.int .u8 c,x]]=>match AC.as x with
   |some u=>some (AC.isL u.1 u.2,.bool (badC a b c))
   |none=>none
 |_=>none
def FMv1:Fam:=⟨Stk,λs=>[.agg [.int .i64 s.c.x,.int .i64 s.c.y,.int .u8 s.c.q,.sl 1 s.l.length (AC.row s.l) none]],λ_=>True,λs=>.bool (OM s)⟩
theorem pMv1:PS 64 kMv1:=by
 refine con [(65,Pf)] Hm FMv1 (λ_ _=>none) kMv1 ?_ ?_ Tryz.func64 E1 E1 E1 ?_
 .intro args pre s h d;unfold kMv1 at h;split at h
  .rename_i a b c x;split at h
   .rename_i u e;cases h;refine⟨⟨⟨a,b,c⟩,AC.lst u.1 u.2⟩,⟨⟨E7,E7,E7,AC.as_leL e d,Jm⟩,Jm⟩,Jm,rfl⟩
   .cases h
  .cases h
 .exact C0
 .rintro(s:Stk) d;refine X0a _ ?_;(repeat' first|constructor|intro h)<;>refine Lm ?_
  all_goals(first
   |exact Jm
   |rfl
   |skip)
def c70:AH
 | [x,.clo g []]=>if g=64 then(LB x).map λq=>(q.1,.int .i64 (Tp OM q.2))else none
 |_=>none
def FIdxFS:Fam:=⟨List Stk,λL=>[EW L,.clo 64 []],λL=>CT L,λL=>.int .i64 (Tp OM L)⟩
def IIdxFS:List Stk->Nat->Option Inv
 |l,2=>some {β:=Nat,ok:=λi=>i<=l.length/\∀j,j<i->OM (l.getD j AA.d)=false,st:=λi=>⟨[⟨8,none,.int .i64 i⟩,⟨7,none,.int .i64 l.length⟩,⟨1,none,.clo 64 []⟩,⟨0,none,EW l⟩],[]⟩,μ:=λi=>l.length-i}
 |_,_=>none
theorem pIdxFS:PS 123 c70:=by
 refine con [(64,kMv1)] (by simpa using pMv1) FIdxFS IIdxFS c70 ?_ ?_ Tryz.func123 E1 E1 E1 ?_
 .intro args pre s h a;unfold c70 at h;split at h
  .split at h
   .rename_i g;subst g;simp only[It]at h;obtain⟨⟨q,L⟩,hx,rfl,rfl⟩:=h;obtain⟨h1,h2⟩:=PC hx a;exact Dw
   .cases h
  .cases h
 .exact Bz
 .rintro(l:List Stk) a;replace a:CT l:=a;have hl:l.length<=100000:=a.1;refine X0a _ ?_;(repeat' first|constructor|intro h)<;>refine Lm ?_
  refine⟨(0:Nat),⟨Jw _,λj d=>Dz⟩,?_,?_⟩
  .refine X0a _ ?_;(repeat' first|constructor|intro h)<;>refine Lm ?_
   all_goals first|exact A8|exact A5|skip
  .intro i k;obtain⟨f,c⟩:=k;replace f:i<=l.length:=f;refine X0a _ ?_;(repeat' first|constructor|intro h)<;>refine Lm ?_
   all_goals(try simp only[Ir]at*)
   all_goals(try first
    |exact Ap
    |exact AC.isL_row _
    |exact λ_=>AC.isL_row _
    |exact(f3s Dz c E5).symm
    |exact(d6x λj d=>c j Dz).symm
    |exact Aq)
   refine⟨i+1,⟨by show i+1<=l.length;omega,λj d=> ?_⟩,Ed,?_⟩
   .by_cases e:j<i
    .exact c j e
    .have:j=i:=Dz;subst this;assumption
   .refine X0a _ ?_;(repeat' first|constructor|intro h)<;>refine Lm ?_
    all_goals first|omega|exact A8|exact A5|skip
def c7b:AH
 | [x,.clo g []]=>if g=64 then(LB x).map λq=>(q.1,.bool (q.2.any OM))else none
 |_=>none
def FCntFS:Fam:=⟨List Stk,λL=>[EW L,.clo 64 []],λL=>CT L,λL=>.bool (L.any OM)⟩
theorem pCntFS:PS 63 c7b:=by
 refine con [(123,c70)] (by simpa using pIdxFS) FCntFS (λ_ _=>none) c7b ?_ ?_ Tryz.func63 E1 E1 E1 ?_
 .intro args pre s h a;unfold c7b at h;split at h
  .split at h
   .rename_i b;subst b;simp only[It]at h;obtain⟨⟨q,L⟩,hx,rfl,rfl⟩:=h;obtain⟨h1,h2⟩:=PC hx a;exact Dw
   .cases h
  .cases h
 .exact Bz
 .rintro(l:List Stk) a;replace a:CT l:=a;refine X0a _ ?_;(repeat' first|constructor|intro h)<;>refine Lm ?_
  all_goals(try simp only[RT.lst_row]at*)
  all_goals(first
   |exact⟨AA.isL_row l,a.1,a.2⟩
   |exact f34 _ _
   |skip)
def cmEs(r:Mv)(s:Stk):Int:=HM r.t r.x r.y s.c.x s.c.y s.c.q
def MA(r:Mv)(s:Stk):Stk:=⟨⟨MB r.t r.x r.y s.c.x s.c.y,MV r.t r.x r.y s.c.x s.c.y,LJ r.t s.c.q⟩,s.l⟩
def GZ(r:Mv)(L:List Stk):Int:=if Do r.t r.x r.y=0/\L.any OM=false then(if L.all (λs=>decide (cmEs r s=0))=true then 0 else 3)else 1
def JY(r:Mv)(L:List Stk):List Stk:=if GZ r L=0 then Qm AA.d Ao (L.map (MA r))else []
theorem g1x{r:Mv}{L:List Stk}(h:¬Do r.t r.x r.y=0):GZ r L=1:=by unfold GZ;rw[if_neg (λa=>h a.1)]
theorem f4m{r:Mv}{L:List Stk}(h:L.any OM=true):GZ r L=1:=by unfold GZ;rw[if_neg (λa=>by simp[a.2]at h)]
theorem d4e{r:Mv}{L:List Stk}{i:Nat}(b:Do r.t r.x r.y=0)(c:L.any OM=false)(hi:i<L.length)(h:¬cmEs r (L.getD i AA.d)=0):GZ r L=3:=by unfold GZ;rw[Ji ⟨b,c⟩,Jj];intro a;rw[Jr]at a;have:=a _ (Kj hi);rw[Ju]at this;apply h;simpa[Jg,hi]using this
theorem f1j{r:Mv}{L:List Stk}(b:Do r.t r.x r.y=0)(c:L.any OM=false)(h:∀i,i<L.length->cmEs r (L.getD i AA.d)=0):GZ r L=0:=by unfold GZ;rw[Ji ⟨b,c⟩,Ji];rw[Jr];intro s hs;obtain⟨i,a,rfl⟩:=Kg.1 hs;have:=h i a;simpa[Jg,a]using this
theorem f39{r:Mv}{L:List Stk}(h:GZ r L≠0):(JY r L).length=0:=by unfold JY;rw[if_neg h];rfl
def Pm(r:Mv)(L:List Stk)(i q:Nat):List SV:=[.int .i64 (if q<i then(MA r (L.getD q AA.d)).c.x else 0),.int .i64 (if q<i then(MA r (L.getD q AA.d)).c.y else 0),.int .u8 (if q<i then(MA r (L.getD q AA.d)).c.q else 0),if q<i then .sl 1 (L.getD q AA.d).l.length (AC.row (L.getD q AA.d).l) none else .con (.slice none 0 0)]
theorem f1k{r:Mv}{L:List Stk}{i q:Nat}(h:q<i):Pm r L i q=AA.sv (MA r (L.getD q AA.d)):=by simp only[Pm,Ji h];rfl
theorem f4w{r:Mv}{L:List Stk}{i q:Nat}(h:¬q<i):Pm r L i q=f5t:=by simp only[Pm,Jj h];rfl
theorem f5p{r:Mv}{L:List Stk}{q:Nat}(h:q<L.length):Pm r L L.length q=AA.row (L.map (MA r)) q:=by rw[f1k h];simp[RT.row,h]
theorem sm_lst{r:Mv}{L:List Stk}:AA.lst L.length (Pm r L L.length)=L.map (MA r):=by
 have e:AA.lst L.length (Pm r L L.length)=AA.lst L.length (AA.row (L.map (MA r))):=by simp only[RT.lst];apply List.map_congr_left;intro q a;rw[f5p (by simpa using a)]
 have k:=RT.lst_row AA (L.map (MA r));rw[Kh]at k;rw[e,k]
theorem sm_isL{r:Mv}{L:List Stk}:AA.isL L.length (Pm r L L.length):=by intro q a;rw[f5p a];exact AA.isL_row (L.map (MA r)) q (by simpa using a)
theorem f5x(t Q:Int):AD .u8 (LJ t Q):=by simp only[LJ,SO];cases NQ t Q 3<;>cases NQ t Q 2<;>cases NQ t Q 1<;>cases NQ t Q 0<;>simp[AD]
theorem g2s{r:Mv}{L:List Stk}{i q:Nat}{c:Option Nat}:Hl (EN (decide (q=i)) [.int .i64 (MB r.t r.x r.y (L.getD i AA.d).c.x (L.getD i AA.d).c.y),.int .i64 (MV r.t r.x r.y (L.getD i AA.d).c.x (L.getD i AA.d).c.y),.int .u8 (LJ r.t (L.getD i AA.d).c.q),.sl 1 (L.getD i AA.d).l.length (AC.row (L.getD i AA.d).l) c] (Pm r L i q)) (Pm r L (i+1) q):=by
 by_cases e:q=i
 .subst e;rw[f1k (Nat.lt_succ_self _),f4w (N0 _),K3 rfl];right;exact⟨rfl,rfl,rfl,⟨rfl,Fc,H1,λ_ _=>rfl⟩,Jm⟩
 .left;rw[K4 e];by_cases h:q<i
  .rw[f1k h,f1k Dz];rfl
  .rw[f4w h,f4w Dz];rfl
def UL:AH
 | [x,.agg [.int .u8 t,.int .i64 a,.int .i64 b]]=>(LB x).map λq=>(q.1/\0<=t/\t<=255/\∀s∈q.2,AD .u8 s.c.q,.tup [.sl 4 (JY ⟨t,a,b⟩ q.2).length (AA.row (JY ⟨t,a,b⟩ q.2)) none,.int .i64 (GZ ⟨t,a,b⟩ q.2)])
 |_=>none
def g0g:Fam:=⟨List Stk×Mv,λ(L,r)=>[EW L,Pb r],λ(L,r)=>CT L/\0<=r.t/\r.t<=255/\∀s∈L,AD .u8 s.c.q,λ(L,r)=>.tup [.sl 4 (JY r L).length (AA.row (JY r L)) none,.int .i64 (GZ r L)]⟩
def g2f:List Stk×Mv->Nat->Option Inv
 |(L,r),5=>some {β:=Nat,ok:=λi=>i<=L.length/\∀j,j<i->cmEs r (L.getD j AA.d)=0,st:=λi=>⟨[⟨23,none,.int .i64 i⟩,⟨22,none,.int .i64 L.length⟩,⟨21,none,EW L⟩,⟨6,none,.osl 1⟩,⟨3,none,.own 0 0⟩],[.cells 36 [.int .u8 r.t,.int .i64 r.x,.int .i64 r.y],.row 121 4 L.length (Pm r L i) (some L.length)]⟩,μ:=λi=>L.length-i}
 |_,_=>none
theorem g1v:PS 22 UL:=by
 refine LV {l:=[(62,RM),(63,c7b),(66,WQ)],h:=[(60,b6w),(67,c1e)],gr:=λid=>bif Nat.beq id 10 then [.fz 4,.flat 1]else []} ⟨by simpa using⟨VE,pCntFS,b5n⟩,E2,by simpa using⟨d00,f9i⟩⟩ g0g g2f UL ?_ ?_ Tryz.func22 E1 E1 E1 ?_
 .intro args pre s h hp;unfold UL at h;split at h
  .rename_i x t a b;simp only[It]at h;obtain⟨⟨q,L⟩,hx,rfl,rfl⟩:=h;obtain⟨E,F⟩:=hp;obtain⟨G,H⟩:=PC hx E;exact⟨(L,⟨t,a,b⟩),⟨G,Hs,Jm⟩,⟨H,F⟩,rfl⟩
  .cases h
 .exact Bz
 .rintro⟨L,r⟩ hp;replace hp:CT L/\0<=r.t/\r.t<=255/\∀s∈L,AD .u8 s.c.q:=hp;have n:=hp.1.1;have o:GZ r L≠0->(JY r L).length=0:=f39;refine X0a _ ?_;(repeat' first|constructor|intro h)<;>refine Lm ?_
  all_goals(try simp only[RT.lst_row,Is,J6,Iz]at*)
  all_goals(try first
   |exact⟨hp.2.1,hp.2.2.1⟩
   |exact λ_=>⟨AA.isL_row L,n,hp.1.2⟩
   |exact Au
   |(have w:GZ r L=1:=Or.elim ‹_\/_› g1x f4m
     first|exact w.symm|exact o (by rw[w];decide)))
  have g:Do r.t r.x r.y=0/\L.any OM=false:=‹_/\_›;refine⟨(0:Nat),⟨Jw _,λj k=>Dz⟩,?_,?_⟩
  .refine X0b _ ?_;(repeat' first|constructor|intro h)<;>refine Lm ?_
   all_goals first|exact K0 _|exact Mj some (K0 _)|(intro q _;exact .inl (by rw[f4w (K5 _)];rfl))|exact A5|rfl|skip
  .rintro i ⟨z,k⟩;replace z:i<=L.length:=z;have hm:i<L.length->L.getD i AA.d∈L:=λh=>Hy;by_cases b6:i<L.length
   .have hQ:0<=(L.getD i AA.d).c.q:=by have:=hp.2.2.2 _ (hm b6);simp only[AD]at this;omega
    by_cases m:HM r.t r.x r.y (L.getD i AA.d).c.x (L.getD i AA.d).c.y (L.getD i AA.d).c.q=0
    .refine X0b _ ?_;(repeat' first|constructor|intro h)<;>refine Lm ?_
     all_goals(try simp only[Ir,Is]at*)
     all_goals(try first
      |exact Bk)
     refine⟨i+1,⟨by show i+1<=L.length;omega,λj bi=> ?_⟩,Ed,?_⟩
     .by_cases e:j<i
      .exact k j e
      .have:j=i:=Dz;subst this;exact m
     .have k0:∀v,keep (HM r.t r.x r.y (L.getD i AA.d).c.x (L.getD i AA.d).c.y (L.getD i AA.d).c.q) v=v:=λv=>by unfold keep;rw[if_pos m]
      refine X0b _ ?_;(repeat' first|constructor|intro h)<;>refine Lm ?_
      all_goals(try simp only[k0])
      all_goals first
       |omega
       |exact A5
       |exact λ_ _=>g2s
       |rfl
       |skip
    .have A:GZ r L=3:=d4e g.1 g.2 b6 m;refine X0b _ ?_;(repeat' first|constructor|intro h)<;>refine Lm ?_
     all_goals(try simp only[Ir,Is]at*)
     all_goals(try first
      |exact Bk
      |exact A.symm
      |exact o (by rw[A];decide))
   .have I:i=L.length:=Dz;subst I;have B:GZ r L=0:=f1j g.1 g.2 k;have C:JY r L=Qm AA.d Ao (L.map (MA r)):=by unfold JY;rw[if_pos B]
    have rz:(JY r L).length=L.length:=by rw[C,(b6c _).1,Kh]
    refine X0b _ ?_;(repeat' first|constructor|intro h)<;>refine Lm ?_
    all_goals(try simp only[Ir,sm_lst,Kh,Is]at*)
    all_goals(try first
     |(exfalso;omega)
     |omega
     |exact B.symm
     |exact⟨sm_isL,n,λs hs=>by obtain⟨u,_,rfl⟩:=Jx.1 hs;exact f5x _ _⟩
     |(intro _ _;left;rw[C];done))
def r0:Mv:=⟨0,0,0⟩
theorem f68{L:List Stk}{nA:Nat}(m:∀i j,i<j->j<nA->j<L.length->(L.getD i AA.d).c≠(L.getD j AA.d).c):∀i,i<=L.length->∀o∈oF L i,
 ((o.2=true/\o.1∈L)\/(o.2=false/\∃j,nA<=j/\j<i/\(L.getD j AA.d).c=o.1.c))/\∃j,j<i/\(L.getD j AA.d).c=o.1.c
 |0,_=>by simp[oF]
 |i+1,h=>by
  intro o f;have n:=f68 m i Dz;have q:∀o∈oF L i,((o.2=true/\o.1∈L)\/(o.2=false/\∃j,nA<=j/\j<i+1/\(L.getD j AA.d).c=o.1.c))/\∃j,j<i+1/\(L.getD j AA.d).c=o.1.c:=by
   intro o f;obtain⟨g,j,r,l⟩:=n o f;refine⟨?_,j,Dz,l⟩;rcases g with g|⟨e,j,a,b,c⟩
   .exact .inl g
   .exact .inr ⟨e,j,a,Dz,c⟩
  rw[Vc Dz]at f;cases hf:GI (oF L i) (FQ (L.getD i AA.d).c)with
  |some k=>
   obtain⟨s,t⟩:=UW hf;rw[Sa hf]at f;rcases Mn f with f|rfl
   .exact q o f
   .have u:nA<=i:=by
     rcases Nd i nA with v|w
     .obtain⟨_,j,r,l⟩:=n _ (DP (d:=dO) s);exact absurd (l.trans (c0q t)) (m j i r v Dz)
     .exact w
    exact⟨.inr ⟨rfl,i,u,Dz,rfl⟩,i,Dz,rfl⟩
  |none=>
   rw[Sh hf]at f;rcases K6.1 f with f|f
   .exact q o f
   .simp only[Kb]at f;subst f;exact⟨.inl ⟨rfl,DP Dz⟩,i,Dz,rfl⟩
theorem f0s{L:List Stk}{nA:Nat}(g:0<L.length)(m:L.length<=100000)(hs:∀s∈L,AD .u8 s.c.q/\s.l≠[]/\s.l.length<=50000)
 (n:∀i j,i<j->j<nA->j<L.length->(L.getD i AA.d).c≠(L.getD j AA.d).c) (o:∀i j,nA<=i->i<j->j<L.length->(L.getD i AA.d).c≠(L.getD j AA.d).c):NC L:=by
 refine⟨g,m,λs h=>⟨(hs s h).1,(hs s h).2.1,by have:=(hs s h).2.2;omega⟩,λi k f r=> ?_⟩;obtain⟨t,u⟩:=UW r;obtain⟨v,_⟩:=f68 n i Dz _ (DP (d:=dO) t);rcases v with⟨e,w⟩|⟨_,j,a,b,c⟩
 .refine⟨e,?_⟩;have a1:=(hs _ w).2.2;have a2:=(hs _ (DP (d:=AA.d) f)).2.2;omega
 .exact absurd (c.trans (c0q u)) (o j i a b f)
theorem c7i{A:List Stk}(h:(A.map (·.c)).Nodup):∀i j,i<j->j<A.length->(A.getD i AA.d).c≠(A.getD j AA.d).c:=by intro i j a b;have:=Kx.1 h i j H4 H4 a;simp only[Mq]at this;rw[Jg,Jg,Jh b,Jh (show i<A.length from Dz)];exact this
theorem f7q{A B:List Stk}(h0:0<A.length+B.length)(hl:A.length+B.length<=100000)(hs:∀s∈A++B,AD .u8 s.c.q/\s.l≠[]/\s.l.length<=50000)
 (k:(A.map (·.c)).Nodup) (m:(B.map (·.c)).Nodup):NC (A++B):=by
 have f:∀i,i<A.length->(A++B).getD i AA.d=A.getD i AA.d:=λi a=>by rw[Jg,Jt a,Jg]
 have g:∀i,A.length<=i->(A++B).getD i AA.d=B.getD (i-A.length) AA.d:=λi a=>by rw[Jg,Jy a,Jg]
 refine f0s (nA:=A.length) (by rwa[K8]) (by rwa[K8]) hs (λi j b e _=> ?_) (λi j b e n=> ?_)
 .rw[f i Dz,f j e];exact c7i k i j b e
 .rw[K8]at n;rw[g i b,g j Dz];exact c7i m _ _ Dz Dz
theorem f86{k C:Int}(h:AQ k C=0):vM (CD k C)/\0<=(CD k C).t/\(CD k C).t<=255:=by
 have a:(1<=k/\k<=4)/\ -4096<=C/\C<=4096:=by
  unfold AQ at h;split at h
  .omega
  .cases h
 have b:k=1\/k=2\/k=3\/k=4:=Dz;rcases b with rfl|rfl|rfl|rfl
 .obtain⟨e,v⟩:=f1r a.2;rw[e];exact⟨v,by show (0:Int)<=4;omega,by show (4:Int)<=255;omega⟩
 .obtain⟨e,v⟩:=f46 a.2;rw[e];exact⟨v,by show (0:Int)<=6;omega,by show (6:Int)<=255;omega⟩
 .obtain⟨e,v⟩:=f8c a.2;rw[e];exact⟨v,by show (0:Int)<=5;omega,by show (5:Int)<=255;omega⟩
 .obtain⟨e,v⟩:=g2p a.2;rw[e];exact⟨v,by show (0:Int)<=7;omega,by show (7:Int)<=255;omega⟩
theorem b9b:∀(n:Nat) (l:List Int),l.Nodup->(∀v∈l,0<=v/\v<n)->l.length<=n
 |0,l,_,h=>by
  cases l with
  |nil=>exact Jp _
  |cons v l=>have:=h v (Mb ..);omega
 |n+1,l,d,h=>by
  by_cases f:(n:Int)∈l
  .have h1:=List.length_erase_of_mem f;have g:=b9b n (l.erase (n:Int)) (d.erase _) λv c=>by
    have a:=h v (List.mem_of_mem_erase c);have b:v≠n:=λe=>by rw[e]at c;exact d.not_mem_erase c
    omega
   omega
  .have g:=b9b n l d λv c=>by
    have a:=h v c;have b:v≠n:=λe=>by rw[e]at c;exact f c
    omega
   omega
section
variable{p:Pt}{r:Mv}{L:List Stk}
theorem c6s(S:SkOK p r L):(L.map (·.c)).Nodup:=by refine L2.2 (Kx.2 λi j b a d e=> ?_);have h:=S.lt i j d a;rw[Jg,Jg,Jh b,Jh a,L5,L5,e,UR]at h;omega
theorem g2v(S:SkOK p r L):(BD L).length<=1024:=by
 have hN:=CG S.hs;have:=b9b (AF p.W p.H) (BD L) S.nd λv a=>by have:=S.rg v a;omega
 omega
theorem g3b(S:SkOK p r L):0<L.length:=by
 have hN:=CG S.hs;have:=S.all 0 Dz Dz;cases L with
 |nil=>simp[BD]at this
 |cons _ _=>simp
end
def Rl(k C s:Int)(L:List Stk):Int:=GZ (CD k C) ((BE k C s L).map DG)
def ID(k C s:Int)(L:List Stk):List Stk:=JY (CD k C) ((BE k C s L).map DG)
def GP(k C s:Int)(o:Bool)(L:List Stk):List Stk:=if o=true then Fl (BE k C (1-s) L++ID k C s L)else Fl (ID k C s L++BE k C (1-s) L)
structure DoOK (k C s:Int) (L:List Stk):Prop where
 spl:QN k C L=0
 skA:CT (BE k C (1-s) L)
 skB:CT (BE k C s L)
 skR:CT ((BE k C s L).map DG)/\∀t∈(BE k C s L).map DG,AD .u8 t.c.q
 ov:Rl k C s L=0->CT (ID k C s L)/\NC (BE k C (1-s) L++ID k C s L)/\NC (ID k C s L++BE k C (1-s) L)/\∀o,DV (GP k C s o L)
theorem d3y(k C:Int):∀(L:List Stk),(BE k C 0 L).length+(BE k C 1 L).length=L.length
 | []=>rfl
 |t::L=>by
  have a:=d3y k C L;unfold BE at a⊢;rcases f5n k C t with e|e
  .rw[List.filter_cons_of_pos (by rw[e];rfl),List.filter_cons_of_neg Gx];exact Ck
  .rw[List.filter_cons_of_neg Gx,List.filter_cons_of_pos (by rw[e];rfl)];exact Ck
theorem do_ok{p:Pt}{r:Mv}{L:List Stk}{k C s:Int}(S:SkOK p r L)(x:DV L)(y:AQ k C=0)(hs:s=0\/s=1):DoOK k C s L:=by
 obtain⟨E,ht⟩:=f86 y;have dw:=g2v S;have hL0:=g3b S;have z:∀t∈L,AD .u8 t.c.q/\t.l≠[]/\t.l.length<=1024:=λt h=>by have A:=S.vc t h;unfold vC at A;have:=b5c L t h;exact⟨F0,S.ne t h,Dz⟩
 have g:∀d,(BE k C d L).Sublist L:=λd=>List.filter_sublist;have sk:∀d,CT (BE k C d L):=λd=>⟨by have:=(g d).length_le;have:=x.1.1;omega,λt h=>x.1.2 t ((g d).subset h)⟩
 have mt:∀d,((BE k C d L).map (·.c)).Nodup:=λd=>((g d).map _).nodup (c6s S);refine⟨d0d y λj F=> ?_,sk _,sk _,⟨⟨by rw[Kh];exact(sk s).1,λt h=> ?_⟩,λt h=> ?_⟩,λG=> ?_⟩
 .have A:=S.vc _ (DP (d:=AA.d) F);unfold vC at A;unfold Qw NH;rw[Ji ⟨by unfold BG;rw[if_pos Dz],y⟩]
 .obtain⟨u,i,rfl⟩:=Jx.1 h;simp only[DG,O0];exact(sk s).2 u i
 .obtain⟨u,i,rfl⟩:=Jx.1 h;exact(z u ((g s).subset i)).1
 have w:(ID k C s L).Perm (((BE k C s L).map DG).map (MA (CD k C))):=by unfold ID JY;rw[Ji (show GZ (CD k C) ((BE k C s L).map DG)=0 from G)];exact(b6c _).3
 have B:∀t∈ID k C s L,∃u∈BE k C s L,t=MA (CD k C) (DG u):=λt h=>by obtain⟨v,H,e⟩:=Jx.1 (w.mem_iff.1 h);obtain⟨u,i,rfl⟩:=Jx.1 H;exact⟨u,i,e.symm⟩
 have hVl:(ID k C s L).length=(BE k C s L).length:=by rw[w.length_eq,Kh,Kh]
 have m:((ID k C s L).map (·.c)).Nodup:=by refine(w.map (·.c)).nodup_iff.2 ?_;rw[M5,M5];refine L2.2 ((L2.1 (mt s)).imp_of_mem λ{a b} I J K e=>K ?_);exact d30 E (S.vc a ((g s).subset I)) (S.vc b ((g s).subset J)) e
 have n:∀t∈ID k C s L,AD .u8 t.c.q/\t.l≠[]/\t.l.length<=1024:=λt h=>by obtain⟨u,i,rfl⟩:=B t h;have:=z u ((g s).subset i);exact⟨f5x _ _,by simp[MA,DG,this.2.1],by simpa[MA,DG]using this.2.2⟩
 have hVf:(BD (ID k C s L)).length<=(BD L).length:=by rw[c47 w,d11 (f:=MA (CD k C)) (λ_=>rfl),d11 (f:=DG) (λt=>by simp[DG])];exact b9e (g s)
 have hAf:=b9e (g (1-s));have bb:(BE k C (1-s) L).length+(BE k C s L).length=L.length:=by
  have:=d3y k C L;rcases hs with rfl|rfl
  .simp only[Int.sub_zero];omega
  .simp only[Int.sub_self];omega
 have hLb:=x.1.1;have all:∀t,t∈BE k C (1-s) L\/t∈ID k C s L->AD .u8 t.c.q/\t.l≠[]/\t.l.length<=50000:=λt h=>by
  rcases h with h|h
  .have:=z t ((g _).subset h);exact⟨this.1,this.2.1,Dz⟩
  .have:=n t h;exact⟨this.1,this.2.1,Dz⟩
 have o1:NC (BE k C (1-s) L++ID k C s L):=f7q Dz Dz (λt h=>all t (K6.1 h)) (mt _) m;have o2:NC (ID k C s L++BE k C (1-s) L):=f7q Dz Dz (λt h=>all t (K6.1 h).symm) m (mt _);refine⟨⟨Dz,λt h=>by have:=(n t h).2.2;omega⟩,o1,o2,λo=> ?_⟩;unfold GP;split
 .exact ov_in o1 (by rw[WX];omega)
 .exact ov_in o2 (by rw[WX];omega)
abbrev Fd:=Int×Int×Int×Bool
def NI:RT Fd:=⟨4,λx=>[.int .u8 x.1,.int .i64 x.2.1,.int .u8 x.2.2.1,.bool x.2.2.2],λl=>match l with
 | [.int _ a,.int _ b,.int _ c,.bool d]=>(a,b,c,d)
 |_=>(0,0,0,false),(0,0,0,false),λ_=>rfl⟩
def Qs(x:Int×Int):List Fd:=[(x.1,x.2,0,false),(x.1,x.2,0,true),(x.1,x.2,1,false),(x.1,x.2,1,true)]
def GG(l:List (Int×Int)):List Fd:=l.flatMap Qs
theorem c5c(l:List (Int×Int)):(GG l).length=4*l.length:=by
 induction l with
 |nil=>rfl
 |cons x l a=>
  have e:(GG (x::l)).length=4+(GG l).length:=by simp[GG,Qs];omega
  rw[e,a,Kz];omega
theorem f1x{l:List (Int×Int)}{i:Nat}(h:i<l.length):GG (l.take (i+1))=GG (l.take i)++Qs (l.getD i BX.d):=by rw[GF (d:=BX.d) h];unfold GG;rw[List.flatMap_append];simp
theorem fd_app{A:List Fd}{x:Int×Int}{n:Nat}(c:A.length=n):∀j,j<n+1+1+1+1->(if j<n+1+1+1 then if j<n+1+1 then if j<n+1 then if j<n then NI.row A j else(List.map (λx:Nat×List SV=>x.snd) [(0,[SV.int .u8 x.1,SV.int .i64 x.2,SV.int .u8 0,SV.bool false])].reverse).getD (j-n) []else(List.map (λx:Nat×List SV=>x.snd) [(0,[SV.int .u8 x.1,SV.int .i64 x.2,SV.int .u8 0,SV.bool true])].reverse).getD (j-(n+1)) []else(List.map (λx:Nat×List SV=>x.snd) [(0,[SV.int .u8 x.1,SV.int .i64 x.2,SV.int .u8 (0+1),SV.bool false])].reverse).getD (j-(n+1+1)) []else(List.map (λx:Nat×List SV=>x.snd) [(0,[SV.int .u8 x.1,SV.int .i64 x.2,SV.int .u8 (0+1),SV.bool true])].reverse).getD (j-(n+1+1+1)) [])=NI.row (A++Qs x) j:=by
 intro j hj;subst c;have a:∀t,(A++Qs x).getD (A.length+t) NI.d=(Qs x).getD t NI.d:=λt=>by rw[Jg,Jy Dz,Nat.add_sub_cancel_left,Jg]
 by_cases b:j<A.length
 .rw[Ji Dz,Ji Dz,Ji Dz,Ji b];simp[RT.row,Jt b]
 .have e:j=A.length+0\/j=A.length+1\/j=A.length+2\/j=A.length+3:=Dz;unfold RT.row;rcases e with rfl|rfl|rfl|rfl
  .rw[Ji Dz,Ji Dz,Ji Dz,Jj Dz,a,Nat.add_sub_cancel_left];rfl
  .rw[Ji Dz,Ji Dz,Jj Dz,a,L3];rfl
  .rw[Ji Dz,Jj Dz,a,show A.length+2-(A.length+1+1)=0 from Dz];rfl
  .rw[Jj Dz,a,show A.length+3-(A.length+1+1+1)=0 from Dz];rfl
theorem c1j{c n:Nat}(h:n<=c):OL (some c) n=some c:=by unfold OL;simp only[M7];rw[Ji h]
theorem f70{p:Pt}{r:Mv}:(EQ p r).length<=3*(CM p.W p.H).toNat:=by unfold EQ;have a:=(c7v (FD Jl (JB p (Al p r) (AY p.W p.H)))).1;have h2:=WW p.W p.H;have b:=@f7a p (Al p r) (AY p.W p.H) (AY p.W p.H).length;rw[Kw]at b;rw[NM]at a;omega
def d93(p:Pt)(r:Mv)(L:List Stk):SV:=.tup [.sl 4 (zL (CL p r L) (GG (EQ p r))).length (NI.row (zL (CL p r L) (GG (EQ p r)))) (some (zL (CL p r L) (GG (EQ p r))).length),.int .i64 (CL p r L)]
def ZA:AH
 | [x]=>(MZ x).map λq=>(q.1,d93 q.2.1 q.2.2.1 q.2.2.2)
 |_=>none
def FFolds:Fam:=⟨Pt×Mv×List Stk,λ(p,r,L)=>[.agg (Co p r L)],λ(p,r,L)=>prOK p r/\DV L,λ(p,r,L)=>d93 p r L⟩
def IFolds:Pt×Mv×List Stk->Nat->Option Inv
 |(p,r,L),6=>some {β:=Nat,ok:=λi=>i<=(EQ p r).length,st:=λi=>⟨[⟨26,none,.int .i64 i⟩,⟨25,none,.int .i64 (EQ p r).length⟩,⟨24,none,.sl 2 (EQ p r).length (BX.row (EQ p r)) none⟩,⟨6,none,.osl 1⟩],[.cells 39 (Co p r L),.row 29 4 (4*i) (NI.row (GG ((EQ p r).take i))) (some (4*(EQ p r).length))]⟩,μ:=λi=>(EQ p r).length-i}
 |_,9=>some (.unroll 3)
 |_,12=>some (.unroll 3)
 |_,_=>none
theorem f5j:PS 9 ZA:=by
 refine con [(8,VW)] (by simpa using d0b) FFolds IFolds ZA ?_ ?_ Tryz.func9 E1 E1 E1 ?_
 .intro args pre s h e;unfold ZA at h;split at h
  .rename_i x;simp only[It]at h;obtain⟨⟨q,p,r,L⟩,hx,rfl,rfl⟩:=h;obtain⟨h1,h2,h3⟩:=QQ hx e;exact Ci
  .cases h
 .exact C0
 .rintro⟨p,r,L⟩ ⟨bm,bv⟩;by_cases a:CL p r L=0;rotate_left
  .refine X0a _ ?_;(repeat' first|constructor|intro h)<;>refine Lm ?_
   all_goals(try simp only[Ir,CE,RT.lst_row,IV,IM,Is]at*)
   all_goals(first
    |exact Ae
    |(simp[zL,a];done)
    |rfl
    |skip)
  have f:CH p r=0:=(VG (WS a)).1;have hs:=(FN (Og f).1).1;have hN:=CG hs;have qx:CM p.W p.H=4*p.W*p.H:=Fv;have jy:=@f70 p r;have g:zL (CL p r L) (EQ p r)=EQ p r:=Ji a;all_goals refine X0a _ ?_;(repeat' first|constructor|intro h)<;>refine Lm ?_
  all_goals(try simp only[Ir,CE,RT.lst_row,IV,IM,Is,g]at*)
  all_goals(try first
   |exact Ae
   |exact A6
   |(refine⟨Dz,Dz,Rj E1 Dz Dz,Dz⟩))
  all_goals
   refine⟨(0:Nat),Jw _,?_,?_⟩
   .exact X1d
   .intro i c;replace c:i<=(EQ p r).length:=c;have k:=c5c ((EQ p r).take i);rw[Mr]at k;refine X0a _ ?_;(repeat' first|constructor|intro h)<;>refine Lm ?_
    all_goals(try simp only[Ir]at*)
    all_goals(try first
     |contradiction
     |exact Ap
     |exact A7)
    all_goals(try(show Int.toNat _<2;decide))
    .have l:i<(EQ p r).length:=Dz;have m:(GG ((EQ p r).take i)).length=4*i:=Dz;refine⟨i+1,Eg,Ed,?_⟩;simp only[f1x l];refine X0a _ ?_;(repeat' first|constructor|intro h)<;>refine Lm ?_
     all_goals first|exact An|exact fd_app m|(rw[c1j Dz,c1j Dz,c1j Dz,c1j Dz];done)|skip
    all_goals
     have n:i=(EQ p r).length:=Dz;subst n;have d:=c5c (EQ p r);simp only[Kw,zL,Ji a]at*;first
      |rfl
      |exact d.symm
      |(rw[d];done)
      |exact a.symm
      |exact B3
      |exact Bs
      |skip
def FZ(k C:Int)(p:Pt)(r:Mv):List (Int×Int):=GO p (DY k C p r) (AY p.W p.H)
def Vd(k C s:Int)(p:Pt)(r:Mv):Int:=if(DY k C p r).getD 0 AC.d=s then Gl r.t r.x r.y (CD k C).t (CD k C).x (CD k C).y else 0
def JE(k C s:Int)(p:Pt)(r:Mv):Mv:=if(DY k C p r).getD 0 AC.d=s then JA r (CD k C)else r
def LM(k C:Int)(o:Bool)(p:Pt)(r:Mv):Pt:=⟨p.W,p.H,RI p (FZ k C p r) (FW p r) o⟩
def CQ(k C s:Int)(o:Bool)(p:Pt)(r:Mv)(L:List Stk):Int:=
 if¬CL p r L=0 then CL p r L else if¬GA k C s=0 then GA k C s else if¬IG k C p r=0 then IG k C p r else if(FZ k C p r).length=0 then 7
 else if¬Rl k C s L=0 then 3 else if¬Vd k C s p r=0 then 3 else if¬CL (LM k C o p r) (JE k C s p r) (GP k C s o L)=0 then 3 else 0
theorem g40{k C s:Int}(h:GA k C s=0)(h0:0<=s):AQ k C=0/\(s=0\/s=1):=by
 unfold GA at h;split at h
 .rename_i a;exact⟨a.1,Dz⟩
 .cases h
structure DoIn (k C s:Int) (p:Pt) (r:Mv) (L:List Stk):Prop where
 S:SkOK p r L
 hl:AQ k C=0
 hs:s=0\/s=1
 vm:vM (CD k C)/\0<=(CD k C).t/\(CD k C).t<=255
 D:DoOK k C s L
 pe:BN p=0
 cr:∀o,f50 p (FZ k C p r) (FW p r) o
 ul:(FZ k C p r).length<=3072
 pl:p.l.length<=3072
 sd:(DY k C p r).length=AF p.W p.H
 n0:4<=AF p.W p.H/\AF p.W p.H<=1024
theorem do_in{k C s:Int}{p:Pt}{r:Mv}{L:List Stk}(b:prOK p r)(d:DV L)(e:CL p r L=0)(g:GA k C s=0)(i:0<=s):DoIn k C s p r L:=by have S:=Xa (WS e) b.2.1 d.2.1;obtain⟨c,hs⟩:=g40 g i;have j:CH p r=0:=(VG (WS e)).1;have a:=(Og j).1;have hN:=CG S.hs;have f:=λo=>do_cr (sd:=DY k C p r) o a b.1.2 (d45 S);refine⟨S,c,hs,f86 c,do_ok S d c hs,a,λo=>(f o).1,(f true).2,d2w a b.1.2,?_,Dz⟩;unfold DY;rw[Kh];exact S.P.il
theorem f5v{k C s:Int}{o:Bool}{p:Pt}{r:Mv}{L:List Stk}(a:prOK p r)(I:DoIn k C s p r L)(b:Rl k C s L=0):prOK (LM k C o p r) (JE k C s p r)/\DV (GP k C s o L):=by
 refine⟨⟨⟨?_,λc d=> ?_⟩,?_⟩,(I.D.ov b).2.2.2 o⟩
 .show (RI _ _ _ _).length<=_;unfold RI KL;rw[NM,K8,Kh];have:=I.ul;have:=I.pl;omega
 .have:c∈KL p (FZ k C p r) (FW p r) o:=(Qn _ _ _).1 d;rcases K6.1 this with h|h
  .exact a.1.2 c h
  .obtain⟨u,e,rfl⟩:=Jx.1 h;have:=(WJ I.S.hs (Ki.1 e).1).2.1;simp only[RE,AD];omega
 .unfold JE;split
  .exact c7z a.2.1 I.vm.2.1
  .exact a.2
def SG(k C s:Int)(o:Bool)(p:Pt)(r:Mv)(L:List Stk):SV:=.tup [.agg (Co (zP (CQ k C s o p r L) (LM k C o p r)) (zR (CQ k C s o p r L) (JE k C s p r)) (zL (CQ k C s o p r L) (GP k C s o L))),.int .i64 (CQ k C s o p r L)]
theorem do_res{k C s:Int}{o:Bool}{p:Pt}{r:Mv}{L:List Stk}(a:prOK p r)(b:DV L)(c:0<=s):prOK (zP (CQ k C s o p r L) (LM k C o p r)) (zR (CQ k C s o p r L) (JE k C s p r))/\DV (zL (CQ k C s o p r L) (GP k C s o L)):=by
 by_cases e:CQ k C s o p r L=0
 .simp only[zP,zR,zL,Ji e];unfold CQ at e;split at e
  .exact absurd e E5
  .rename_i d;split at e
   .exact absurd e E5
   .rename_i f;split at e
    .exact absurd e E5
    .split at e
     .cases e
     .split at e
      .cases e
      .rename_i g;exact f5v a (do_in a b (Np.1 d) (Np.1 f) c) (Np.1 g)
 .simp only[zP,zR,zL,Jj e];exact⟨by unfold prOK;simp,by unfold DV CT;simp[BD]⟩
theorem JK{p:Pt}{r:Mv}{L:List Stk}(a:prOK p r)(b:DV L):((MI p.l.length (Eo p.l)/\p.l.length<=100000)/\(∀x∈p.l,AD .u8 x.e)/\0<=r.t/\r.t<=255)/\(AA.isL L.length (AA.row L)/\L.length<=100000/\∀s∈L,s.l.length<=100000)/\(∀x∈L,AD .u8 x.c.q)/\(BD L).length<=100000:=
 ⟨⟨⟨FT _,a.1.1⟩,a.1.2,a.2⟩,MS L b.1,b.2⟩
theorem c9d{p:Pt}{r:Mv}(a:prOK p r):((MI p.l.length (Eo p.l)/\p.l.length<=100000)/\∀c∈p.l,AD .u8 c.e)/\0<=r.t/\r.t<=255:=⟨⟨⟨FT _,a.1.1⟩,a.1.2⟩,a.2⟩
theorem c95{A:List Stk}(h:CT A):AA.isL A.length (AA.row A)/\A.length<=100000/\∀s∈A,s.l.length<=100000:=MS A h
theorem TD{A:List Stk}{P:Prop}(h:CT A)(a:P):(AA.isL A.length (AA.row A)/\A.length<=100000/\∀s∈A,s.l.length<=100000)/\P:=⟨MS A h,a⟩
theorem TU{A B:List Stk}(h:CT A)(k:CT B)(o:NC (A++B)):((AA.is A.length (AA.row A)/\A.length<=100000/\∀s∈A,s.l.length<=100000)/\AA.is B.length (AA.row B)/\B.length<=100000/\∀s∈B,s.l.length<=100000)/\NC (A++B):=⟨⟨⟨RT.is_row AA A,h⟩,RT.is_row AA B,k⟩,o⟩
theorem c0n{p:Pt}{r:Mv}{l:List (Int×Int)}{P:Prop}(a:prOK p r)(h:P):((MI p.l.length (Eo p.l)/\p.l.length<=100000)/\DJ.isL l.length (DJ.row l))/\True/\P:=⟨⟨⟨FT _,a.1.1⟩,RT.isL_row DJ l⟩,Jm,h⟩
def Ul:AH
 | [x,.agg [.int .u8 k,.int .i64 C,.int .u8 s,.bool o]]=>(MZ x).map λq=>(q.1/\0<=s,SG k C s o q.2.1 q.2.2.1 q.2.2.2)
 |_=>none
def Xy:Fam:=⟨(Pt×Mv×List Stk)×(Int×Int×Int)×Bool,λ((p,r,L),(k,C,s),o)=>[.agg (Co p r L),.agg [.int .u8 k,.int .i64 C,.int .u8 s,.bool o]],λ((p,r,L),(_,_,s),_)=>(prOK p r/\DV L)/\0<=s,λ((p,r,L),(k,C,s),o)=>SG k C s o p r L⟩
abbrev CrdI:=(Pt×List (Int×Int))×List Bool×(Int×Int×Int)×Bool
def crdO:CrdI->List Blk
 |(_,a,(k,C,s),o)=>[.cells 59 [.sl 1 a.length (EJ.row a) none],.cells 29 [.int .u8 k,.int .i64 C,.int .u8 s,.bool o]]
def VQ:HK:=λa own=>match a,own with
 | [x,y,.clo f [.own 0 0,.own 1 0]],[.cells b [.sl 1 n g _],.cells c [.int .u8 k,.int .i64 C,.int .u8 s,.bool o]]=>if f=28/\b=59/\c=29 then(match Pl x,DJ.as y with
   |some q,some v=>some ⟨(q.1/\DJ.isL v.1 v.2)/\g=EJ.row (EJ.lst n g)/\f50 q.2 (DJ.lst v.1 v.2) (EJ.lst n g) o,KC ⟨q.2.W,q.2.H,RI q.2 (DJ.lst v.1 v.2) (EJ.lst n g) o⟩,[.cells 59 [.sl 1 (EJ.lst n g).length (EJ.row (EJ.lst n g)) none],.cells 29 [.int .u8 k,.int .i64 C,.int .u8 s,.bool o]],[]⟩
   |_,_=>none)else none
 |_,_=>none
def FHCrd:FamH:=⟨CrdI,λ((p,l),_)=>[KC p,.sl 2 l.length (DJ.row l) none,.clo 28 [.own 0 0,.own 1 0]],crdO,λ((p,l),a,_,o)=>f50 p l a o,λ((p,l),a,_,o)=>KC ⟨p.W,p.H,RI p l a o⟩,crdO,[]⟩
def IHCrd:CrdI->Nat->Option Inv
 |((p,l),a,(k,C,s),o),3=>some {β:=Nat,ok:=λi=>i<=l.length,st:=λi=>⟨[⟨18,none,.int .i64 i⟩,⟨17,none,.int .i64 l.length⟩,⟨16,none,.sl 2 l.length (DJ.row l) none⟩,⟨7,none,.own 5 0⟩,⟨6,none,.own 3 0⟩,⟨2,none,.clo 28 [.own 0 0,.own 1 0]⟩],crdO ((p,l),a,(k,C,s),o)++[.cells 34 [.int .i64 p.W,.int .i64 p.H,.sl 3 p.l.length (Eo p.l) none],.cells 34 [.int .i64 0,.int .i64 0,.con (.slice none 0 0)],.row 69 3 (KL p (l.take i) a o).length (DB.row (KL p (l.take i) a o)) none,.cells 34 [.int .i64 p.W,.int .i64 p.H,.osl 4]]⟩,μ:=λi=>l.length-i}
 |_,_=>none
theorem pHCrd:HS 27 VQ:=by
 refine JO {l:=[(28,kDo1),(85,b10)],fs:=[(81,b39)],fsok:=by simpa using d60,x:=[(82,c15)],h:=[(81,hVCl)]} ⟨by simpa using⟨pDo1,c4t⟩,by simpa using g3z,by simpa using pVCl⟩ FHCrd IHCrd VQ ?_ ?_ ?_ Tryz.func27 E1 E1 E1 ?_
 .intro args own r h u;unfold VQ at h;split at h
  .rename_i x y f T1 n g w T2 k C s o;split at h
   .rename_i z;obtain⟨rfl,rfl,rfl⟩:=z;split at h
    .rename_i q v A B;cases h;obtain⟨⟨t,c⟩,b,E⟩:=u;have F:(EJ.lst n g).length=n:=RT.lst_length _ _ _;generalize EJ.lst n g=a at*;subst b F;refine⟨((q.2,DJ.lst v.1 v.2),a,(k,C,s),o),⟨(RC A t).1,JL (DJ.as_leL B c),⟨rfl,rfl⟩,Jm⟩,rfl,?_,E,rfl,rfl,rfl⟩;refine⟨⟨Em,?_,Jm⟩,⟨Em,by simp[BH,SV.le0]⟩,Jm⟩;cases w<;>simp[SV.le0,HN]<;>exact λi _=>.inl rfl
    .cases h
   .cases h
  .cases h
 .exact C1
 .intro i;show 2<=2;decide
 .rintro⟨⟨p,l⟩,a,⟨k,C,s⟩,o⟩ μ ⟨⟨t,c⟩,b⟩;refine X0a _ ?_;(repeat' first|constructor|intro h)<;>refine Lm ?_
  all_goals(try omega)
  refine⟨(0:Nat),Jw _,?_,?_⟩
  .refine X0a _ ?_;(repeat' first|constructor|intro h)<;>refine Lm ?_
   all_goals first|exact A2|(simp[KL];done)|(intro j hj;rw[show KL p (List.take 0 l) a o=p.l by simp[KL]];rfl)|skip
  .intro i m;replace m:i<=l.length:=m;have hv:i<l.length->0<=(l.getD i DJ.d).1/\(l.getD i DJ.d).1<a.length:=λh=>c _ (DP h);have hA:=@f0x p l a o i m;refine X0a _ ?_;(repeat' first|constructor|intro h)<;>refine Lm ?_
   all_goals(try simp only[Ir,RT.lst_row]at*)
   all_goals(try first
    |exact Ap
    |exact⟨⟨⟨rfl,Jm⟩,rfl⟩,hv Dz⟩
    |exact Bn
    |exact⟨⟨rfl,rfl⟩,hv Dz⟩
    |exact Bn
    |exact⟨⟨⟨rfl,rfl⟩,Jm⟩,hv Dz⟩
    |exact A7)
   .have G:i<l.length:=Dz;refine⟨i+1,Eg,Ed,?_⟩;simp only[d78 G,J4];refine X0a _ ?_;(repeat' first|constructor|intro h)<;>refine Lm ?_
    all_goals first|exact An|exact SC (R:=DB) rfl|skip
   all_goals
    have H:i=l.length:=Dz;subst H;rw[Kw]at*;first
     |exact⟨⟨RT.is_row DB _,Dz,b⟩,λ_ _=>rfl⟩
     |exact⟨RT.is_row DB _,Dz,b⟩
     |exact⟨Dz,λ_ _=>rfl⟩
     |exact(NM _ _).symm
     |exact B3
     |exact Bs
     |skip
def LN(i:Xy.ι):Prop:=FC (EX [(6,RU),(12,TW),(19,Vh),(20,SM),(21,VJ),(23,UN),(22,UL),(24,Rd),(25,Vg),(26,VY)] [] [(27,VQ)] (λ_=>false) false (λ_=>[]) 0 (λ_=>true) (λ_=>none) []) (Tryz.f7).ntmps (λ_=>none) ((Tryz.f7).body.getD .skip) ⟨MM (EX [(6,RU),(12,TW),(19,Vh),(20,SM),(21,VJ),(23,UN),(22,UL),(24,Rd),(25,Vg),(26,VY)] [] [(27,VQ)] (λ_=>false) false (λ_=>[]) 0 (λ_=>true) (λ_=>none) []) Tryz.f7 (Xy.res i),λ_ _=>False,MM (EX [(6,RU),(12,TW),(19,Vh),(20,SM),(21,VJ),(23,UN),(22,UL),(24,Rd),(25,Vg),(26,VY)] [] [(27,VQ)] (λ_=>false) false (λ_=>[]) 0 (λ_=>true) (λ_=>none) []) Tryz.f7 (Xy.res i)⟩ ⟨MO 0 (Xy.args i),[]⟩
structure DoF (k C s:Int) (o:Bool) (p:Pt) (r:Mv) (L:List Stk) (M:Mv) (A B out:List Stk) (pp:Pt) (T:Mv):Prop where
 za:¬GZ M (B.map DG)=0->CQ k C s o p r L=3
 m6:GZ M (B.map DG)=0->CT (JY M (B.map DG))/\NC (A++JY M (B.map DG))/\NC (JY M (B.map DG)++A)
 sh:GZ M (B.map DG)=0->(DY k C p r).getD (Int.toNat 0) AC.d=s->¬Gl r.t r.x r.y M.t M.x M.y=0->CQ k C s o p r L=3
 pj:GZ M (B.map DG)=0->(DY k C p r).getD (Int.toNat 0) AC.d=s->prOK pp T/\DV out
 si:GZ M (B.map DG)=0->¬(DY k C p r).getD (Int.toNat 0) AC.d=s->prOK pp r/\DV out
 pk:GZ M (B.map DG)=0->(DY k C p r).getD (Int.toNat 0) AC.d=s->Gl r.t r.x r.y M.t M.x M.y=0->(¬CL pp T out=0->CQ k C s o p r L=3)/\(CL pp T out=0->CQ k C s o p r L=0)
 sj:GZ M (B.map DG)=0->¬(DY k C p r).getD (Int.toNat 0) AC.d=s->(¬CL pp r out=0->CQ k C s o p r L=3)/\(CL pp r out=0->CQ k C s o p r L=0)
 zb:(DY k C p r).getD (Int.toNat 0) AC.d=s->JE k C s p r=T
 zc:¬(DY k C p r).getD (Int.toNat 0) AC.d=s->JE k C s p r=r
theorem do_f{k C s:Int}{o:Bool}{p:Pt}{r:Mv}{L:List Stk}{M:Mv}{A B out:List Stk}{pp:Pt}{T:Mv}(j:prOK p r)(I:DoIn k C s p r L)(l:CL p r L=0)(m:GA k C s=0)(n:IG k C p r=0)(q:¬(FZ k C p r).length=0)
 (u:CD k C=M) (v:BE k C (1-s) L=A) (w:BE k C s L=B) (z:GP k C s o L=out) (E:LM k C o p r=pp) (F:JA r (CD k C)=T):DoF k C s o p r L M A B out pp T:=by
 subst u v w z E F;have a:CQ k C s o p r L=if¬Rl k C s L=0 then 3 else if¬Vd k C s p r=0 then 3 else if¬CL (LM k C o p r) (JE k C s p r) (GP k C s o L)=0 then 3 else 0:=by unfold CQ;rw[Jj (λh=>h l),Jj (λh=>h m),Jj (λh=>h n),Jj q]
 have b:(DY k C p r).getD (Int.toNat 0) AC.d=s->JE k C s p r=JA r (CD k C):=λhs=>Ji hs;have c:¬(DY k C p r).getD (Int.toNat 0) AC.d=s->JE k C s p r=r:=λhs=>Jj hs;have f:(DY k C p r).getD (Int.toNat 0) AC.d=s->Vd k C s p r=Gl r.t r.x r.y (CD k C).t (CD k C).x (CD k C).y:=λhs=>Ji hs;have G:¬(DY k C p r).getD (Int.toNat 0) AC.d=s->Vd k C s p r=0:=λhs=>Jj hs;have g:Rl k C s L=0->Vd k C s p r=0->(¬CL (LM k C o p r) (JE k C s p r) (GP k C s o L)=0->CQ k C s o p r L=3)/\(CL (LM k C o p r) (JE k C s p r) (GP k C s o L)=0->CQ k C s o p r L=0):=λhx H=>by rw[a,Jj (λh=>h hx),Jj (λh=>h H)];exact⟨λh=>Ji h,λh=>Jj (λk=>k h)⟩
 have i:=λhx=>f5v (o:=o) j I hx;refine⟨λhx=>by rw[a,Ji (show¬Rl k C s L=0 from hx)],λhx=> ?_,λhx hs e=> ?_,λhx hs=> ?_,λhx hs=> ?_,λhx hs e=> ?_,λhx hs=> ?_,b,c⟩
 .have:=I.D.ov hx;exact⟨this.1,this.2.1,this.2.2.1⟩
 .rw[a,Jj (λh=>h hx),Ji (by rw[f hs];exact e)]
 .rw[<-b hs];exact i hx
 .have:=i hx;rwa[c hs]at this
 .rw[<-b hs];exact g hx (by rw[f hs];exact e)
 .have:=g hx (G hs);rwa[c hs]at this
theorem do_e1{p:Pt}{r:Mv}{L:List Stk}{k C s:Int}{o:Bool}(bm:prOK p r)(bv:DV L)(_:0<=s)(a:¬CL p r L=0):LN ((p,r,L),(k,C,s),o):=by
 have hE:CQ k C s o p r L=CL p r L:=Ji a;unfold LN;have hP:zP (CQ k C s o p r L) (LM k C o p r)=⟨0,0,[]⟩:=Jj (by rw[hE];exact a);have hR:zR (CQ k C s o p r L) (JE k C s p r)=⟨0,0,0⟩:=Jj (by rw[hE];exact a);have hL:zL (CQ k C s o p r L) (GP k C s o L)=[]:=Jj (by rw[hE];exact a);refine X0a _ ?_;(repeat' first|constructor|intro h)<;>refine Lm ?_
 all_goals(try simp only[Ir,CE,RT.lst_row,IV,IM,Is]at*)
 all_goals(try first
  |exact Ae
  |(rw[hP];done)
  |(rw[hR];done)
  |(rw[hL];done)
  |exact Av)
theorem do_e2{p:Pt}{r:Mv}{L:List Stk}{k C s:Int}{o:Bool}(bm:prOK p r)(bv:DV L)(_:0<=s)(b:CL p r L=0)(a:¬GA k C s=0):LN ((p,r,L),(k,C,s),o):=by
 have hE:CQ k C s o p r L=GA k C s:=by unfold CQ;rw[if_neg (λh=>h b),if_pos a]
 unfold LN;have hP:zP (CQ k C s o p r L) (LM k C o p r)=⟨0,0,[]⟩:=Jj (by rw[hE];exact a);have hR:zR (CQ k C s o p r L) (JE k C s p r)=⟨0,0,0⟩:=Jj (by rw[hE];exact a);have hL:zL (CQ k C s o p r L) (GP k C s o L)=[]:=Jj (by rw[hE];exact a);refine X0a _ ?_;(repeat' first|constructor|intro h)<;>refine Lm ?_
 all_goals(try simp only[Ir,CE,RT.lst_row,IV,IM,Is]at*)
 all_goals(try first
  |exact Ae
  |(rw[hP];done)
  |(rw[hR];done)
  |(rw[hL];done)
  |exact Av)
theorem do_e3{p:Pt}{r:Mv}{L:List Stk}{k C s:Int}{o:Bool}(bm:prOK p r)(bv:DV L)(_:0<=s)(b:CL p r L=0)(c:GA k C s=0)(a:¬IG k C p r=0):LN ((p,r,L),(k,C,s),o):=by
 have hE:CQ k C s o p r L=IG k C p r:=by unfold CQ;rw[if_neg (λh=>h b),if_neg (λh=>h c),if_pos a]
 unfold LN;have hP:zP (CQ k C s o p r L) (LM k C o p r)=⟨0,0,[]⟩:=Jj (by rw[hE];exact a);have hR:zR (CQ k C s o p r L) (JE k C s p r)=⟨0,0,0⟩:=Jj (by rw[hE];exact a);have hL:zL (CQ k C s o p r L) (GP k C s o L)=[]:=Jj (by rw[hE];exact a);refine X0a _ ?_;(repeat' first|constructor|intro h)<;>refine Lm ?_
 all_goals(try simp only[Ir,CE,RT.lst_row,IV,IM,Is]at*)
 all_goals(try first
  |exact Ae
  |(rw[hP];done)
  |(rw[hR];done)
  |(rw[hL];done)
  |exact Av)
theorem do_e4{p:Pt}{r:Mv}{L:List Stk}{k C s:Int}{o:Bool}(bm:prOK p r)(bv:DV L)(h0:0<=s)(c:CL p r L=0)(d:GA k C s=0)(b:IG k C p r=0)(I:DoIn k C s p r L)(a:(FZ k C p r).length=0):LN ((p,r,L),(k,C,s),o):=by
 have hE:CQ k C s o p r L=7:=by unfold CQ;rw[if_neg (λh=>h c),if_neg (λh=>h d),if_neg (λh=>h b),if_pos a]
 unfold FZ at a;unfold LN;have hP:zP (CQ k C s o p r L) (LM k C o p r)=⟨0,0,[]⟩:=Jj (by rw[hE];decide);have hR:zR (CQ k C s o p r L) (JE k C s p r)=⟨0,0,0⟩:=Jj (by rw[hE];decide);have hL:zL (CQ k C s o p r L) (GP k C s o L)=[]:=Jj (by rw[hE];decide);refine AB _ ?_;(repeat' first|constructor|refine Iu λa=> ?_|intro h)<;>refine Lm ?_
 all_goals(try simp only[Ir,CE,RT.lst_row,IV,IM,Is,zL,Qd,Ji b,Ji I.D.spl]at*)
 all_goals(try first
  |exact Ae
  |omega
  |(rw[hP];done)
  |(rw[hR];done)
  |(rw[hL];done)
  |exact Av)
end Go.Proofs.YtlffhjfkaepimaaGreatDoor.V
