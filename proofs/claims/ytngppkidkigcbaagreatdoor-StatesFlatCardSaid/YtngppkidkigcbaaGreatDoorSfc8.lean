/-
  Parts of the proof: A32. Conditions: none.
-/
import Derived.Test.YtngppkidkigcbaaGreatDoorSfc15
set_option maxRecDepth 100000
set_option maxHeartbeats 40000000
namespace Go.Proofs.YtngppkidkigcbaaGreatDoor.V
open Go
theorem CS: @HPow.hPow Int Nat Int (@instHPow Int Nat (@instPowNat Int Int.instNatPow)) (2:Int) (Int.toNat 1)=2:=rfl
theorem b2i{p:Nat->Bool}{f i j:Nat}(h:¬i<j):GO p f i j=i:=by cases f<;>simp[GO,h]
theorem b9e{p:Nat->Bool}{f i j:Nat}(h:i<j)(a:p ((i+j)/2)=true):GO p (f+1) i j=GO p f ((i+j)/2+1) j:=by rw[GO,Ih h,Ih a]
theorem b8n{p:Nat->Bool}{f i j:Nat}(h:i<j)(a:¬p ((i+j)/2)=true):GO p (f+1) i j=GO p f i ((i+j)/2):=by rw[GO,Ih h,Ii a]
theorem f66{b:Bool}(h:b=true):¬(!b)=true:=by simp[h]
theorem f82{b:Bool}(h:¬b=true):(!b)=true:=Dr
def RA(F:Nat):HK:=λe own=>match e,own with
 | [.osl 0,.int .i64 a,.int .i64 m,.int .i64 b,.clo f []],[.row T 4 n g _]=>if T=CC/\f=132 then some ⟨AA.isL n g/\n<=100000/\0<=a/\a<m/\m<b/\b<=n/\b-a<=F/\(∀s∈AA.lst n g,AD .u8 s.c.q),.tup [],[.row CC 4 (AA.lst n g).length (AA.row (DV AA.d AW F a.toNat m.toNat b.toNat (AA.lst n g))) none],[]⟩else none
 |_,_=>none
def FSym(F:Nat):FamH:=⟨List Stk×Nat×Nat×Nat,λ(_,a,m,b)=>[.osl 0,.int .i64 a,.int .i64 m,.int .i64 b,.clo 132 []],λ(l,_)=>[.row CC 4 l.length (AA.row l) none],λ(l,a,m,b)=>l.length<=100000/\a<m/\m<b/\b<=l.length/\b-a<=F/\∀s∈l,AD .u8 s.c.q,λ_=>.tup [],λ(l,a,m,b)=>[.row CC 4 l.length (AA.row (DV AA.d AW F a m b l)) none],[]⟩
def ISym:List Stk×Nat×Nat×Nat->Nat->Option Inv
 |(l,a,m,b),3=>some {β:=Nat×Nat×Nat,ok:=λ(f,i,j)=>m<=i/\i<=j/\j<=b/\j-i<=f/\GO (λh=>AW (l.getD h AA.d) (l.getD a AA.d)) f i j=QM AA.d AW a m b l,st:=λ(_,i,j)=>⟨[⟨11,none,.int .i64 j⟩,⟨10,none,.int .i64 i⟩,⟨4,none,.clo 132 []⟩,⟨3,none,.int .i64 b⟩,⟨2,none,.int .i64 m⟩,⟨1,none,.int .i64 a⟩,⟨0,none,.osl 0⟩],[.row CC 4 l.length (AA.row l) none]⟩,μ:=λ(f,_)=>f}
 |(l,a,m,b),9=>some {β:=Nat×Nat×List Stk,ok:=λ(f,k,L)=>Sub L l/\k+f+1=QM AA.d AW a m b l/\QY AA.d f k L=QY AA.d (QM AA.d AW a m b l-1-a) a l,st:=λ(_,k,L)=>⟨[⟨13,none,.int .i64 k⟩,⟨10,none,.int .i64 ((QM AA.d AW a m b l:Nat):Int)⟩,⟨4,none,.clo 132 []⟩,⟨3,none,.int .i64 b⟩,⟨2,none,.int .i64 m⟩,⟨1,none,.int .i64 a⟩,⟨0,none,.osl 0⟩],[.row CC 4 l.length (AA.row L) none]⟩,μ:=λ(f,_)=>f}
 |(l,a,m,b),15=>some {β:=Nat×Nat×Nat,ok:=λ(f,i,j)=>a<=i/\i<=j/\j<=m/\j-i<=f/\GO (λh=> !AW (l.getD m AA.d) (l.getD h AA.d)) f i j=TA AA.d AW a m l,st:=λ(_,i,j)=>⟨[⟨15,none,.int .i64 j⟩,⟨14,none,.int .i64 i⟩,⟨4,none,.clo 132 []⟩,⟨3,none,.int .i64 b⟩,⟨2,none,.int .i64 m⟩,⟨1,none,.int .i64 a⟩,⟨0,none,.osl 0⟩],[.row CC 4 l.length (AA.row l) none]⟩,μ:=λ(f,_)=>f}
 |(l,a,m,b),21=>some {β:=Nat×Nat×List Stk,ok:=λ(f,k,L)=>Sub L l/\TA AA.d AW a m l+f=k/\k<=m/\RF AA.d f k L=RF AA.d (m-TA AA.d AW a m l) m l,st:=λ(_,k,L)=>⟨[⟨17,none,.int .i64 k⟩,⟨14,none,.int .i64 ((TA AA.d AW a m l:Nat):Int)⟩,⟨4,none,.clo 132 []⟩,⟨3,none,.int .i64 b⟩,⟨2,none,.int .i64 m⟩,⟨1,none,.int .i64 a⟩,⟨0,none,.osl 0⟩],[.row CC 4 l.length (AA.row L) none]⟩,μ:=λ(f,_)=>f}
 |(l,a,m,b),33=>some {β:=Nat×Nat×Nat,ok:=λ(f,i,j)=>a<=i/\i<=j/\j<=m/\(a+b)/2+m-b<=i/\j<=(a+b)/2/\j-i<=f/\GO (λc=> !AW (l.getD ((a+b)/2+m-1-c) AA.d) (l.getD c AA.d)) f i j=GQ AA.d AW a m b l,st:=λ(_,i,j)=>⟨[⟨22,none,.int .i64 ((((a+b)/2+m-1:Nat)):Int)⟩,⟨21,none,.int .i64 j⟩,⟨20,none,.int .i64 i⟩,⟨19,none,.int .i64 ((((a+b)/2+m:Nat)):Int)⟩,⟨18,none,.int .i64 ((((a+b)/2:Nat)):Int)⟩,⟨4,none,.clo 132 []⟩,⟨3,none,.int .i64 b⟩,⟨2,none,.int .i64 m⟩,⟨1,none,.int .i64 a⟩,⟨0,none,.osl 0⟩],[.row CC 4 l.length (AA.row l) none]⟩,μ:=λ(f,_)=>f}
 |_,_=>none
theorem pSym1(F:Nat)(ih:HS 204 (RA F)):HS 204 (RA (F+1)):=by
 refine HB {l:=[(132,VP)],h:=[(204,RA F),(236,hRot)]} ⟨by simpa using pMv2,Dm,by simpa using⟨ih,pRot⟩⟩ (FSym (F+1)) ISym (RA (F+1)) ?_ ?_ ?_ Tryz.func204 Dk Dk Dk ?_
 .intro args own r h hp;unfold RA at h;split at h
  .rename_i a m b f T n g c;split at h
   .rename_i hT;obtain⟨rfl,rfl⟩:=hT;cases h;obtain⟨p1,p2,p3,p4,p5,p6,p7,p8⟩:=hp;have hl:=RT.lst_length AA n g;exact⟨(AA.lst n g,a.toNat,m.toNat,b.toNat),⟨Dt,E6,E6,E6,Dt,Im⟩,rfl,Up p1,⟨Dj,Dj,Dj,Dj,Dj,p8⟩,rfl,rfl,rfl⟩
   .cases h
  .cases h
 .exact C7
 .exact Bz
 .rintro⟨l,a,m,b⟩ μ ⟨h0,h1,h2,h3,h4,h5⟩;have hq:∀x,x<l.length->AD .u8 (l.getD x AA.d).c.q:=λx hx=>h5 _ (by rw[If,Ig hx,K2];exact Ji _);have e2:(2:Int)^Int.toNat 1=2:=rfl;have e2: @HPow.hPow Int Nat Int (@instHPow Int Nat (@instPowNat Int Int.instNatPow)) (2:Int) (Int.toNat 1)=2:=rfl;by_cases P:m-a=1
  .have jf:=Sg (p:=λh=>AW (l.getD h AA.d) (l.getD a AA.d)) (b-m) m b Dj;have R:DV AA.d AW (F+1) a m b l=QY AA.d (QM AA.d AW a m b l-1-a) a l:=by rw[DV,Ih P]
   refine X0 _ ?_;(repeat' first|constructor|intro h)<;>refine Lm ?_
   all_goals(try simp only[Hv,CS]at*)
   all_goals(try first
    |exact A3)
   refine⟨(b-m,m,b),⟨Ir _,by show m<=b;omega,Ir _,Ir _,rfl⟩,?_,?_⟩
   .exact X2
   .rintro⟨f,i,j⟩ C;replace C:m<=i/\i<=j/\j<=b/\j-i<=f/\GO (λh=>AW (l.getD h AA.d) (l.getD a AA.d)) f i j=QM AA.d AW a m b l:=C;obtain⟨J,S,K,U,u⟩:=C;have G:(((i:Int)+j)/2).toNat=(i+j)/2:=Dj;by_cases E:i<j
    .obtain⟨f,rfl⟩:∃H,f=H+1:=⟨f-1,Dj⟩
     by_cases I:FF (l.getD ((i+j)/2) AA.d).c.x (l.getD ((i+j)/2) AA.d).c.y (l.getD ((i+j)/2) AA.d).c.q (l.getD a AA.d).c.x (l.getD a AA.d).c.y (l.getD a AA.d).c.q<0
     .refine X0a _ ?_;(repeat' first|constructor|intro h)<;>refine Lm ?_
      all_goals(try simp only[Hv,CS,G]at*)
      all_goals(try first
       |exact A7)
      rw[b9e E (OQ.2 I)]at u;refine⟨(f,(i+j)/2+1,j),⟨by show m<=(i+j)/2+1;omega,Fd,K,Ga,u⟩,E2,?_⟩;all_goals exact X2d
     .refine X0a _ ?_;(repeat' first|constructor|intro h)<;>refine Lm ?_
      all_goals(try simp only[Hv,CS,G]at*)
      all_goals(try first
       |exact A7)
      rw[b8n E (λM=>I (OQ.1 M))]at u;refine⟨(f,i,(i+j)/2),⟨J,Fe,by show (i+j)/2<=b;omega,Gb,u⟩,E2,?_⟩;all_goals exact X2d
    .rw[b2i E]at u;refine X0a _ ?_;(repeat' first|constructor|intro h)<;>refine Lm ?_
     all_goals(try simp only[Hv,CS]at*)
     all_goals(try first
      |exact A3)
     refine⟨(i-1-a,a,l),⟨Sub.refl l,by show a+(i-1-a)+1=_;omega,by show QY AA.d (i-1-a) a l=_;rw[u]⟩,?_,?_⟩
     .exact X2d
     .rintro⟨f,k,L⟩ ⟨k1,k2,k3⟩;have kl:=k1.1;have hub:QM AA.d AW a m b l<=b:=jf.2;have N:((k:Int)+1).toNat=k+1:=Dj;by_cases V:f=0
      .subst V;have kE:L=DV AA.d AW (F+1) a m b l:=by rw[R,<-k3];rfl
       exact X2e
      .obtain⟨f,rfl⟩:∃H,f=H+1:=⟨f-1,Dj⟩
       refine X0a _ ?_;(repeat' first|constructor|intro h)<;>refine Lm ?_
       all_goals(try simp only[Hv,N]at*)
       all_goals(try first
        |exact A3)
       have hs:=Pn (d:=AA.d) (l:=L) (i:=k) (j:=k+1) Dj Dj;refine⟨(f,k+1,EI AA.d L k (k+1)),⟨hs.trans k1,by show k+1+f+1=_;omega,k3⟩,E2,?_⟩;all_goals exact X2d
  .by_cases W:b-m=1
   .have jf:=Sg (p:=λh=> !AW (l.getD m AA.d) (l.getD h AA.d)) (m-a) a m Dj;have R:DV AA.d AW (F+1) a m b l=RF AA.d (m-TA AA.d AW a m l) m l:=by rw[DV,Ii P,Ih W]
    refine X0 _ ?_;(repeat' first|constructor|intro h)<;>refine Lm ?_
    all_goals(try simp only[Hv,CS]at*)
    all_goals(try first
     |exact A3)
    refine⟨(m-a,a,m),⟨Ir _,by show a<=m;omega,Ir _,Ir _,rfl⟩,?_,?_⟩
    .exact X2
    .rintro⟨f,i,j⟩ C;replace C:a<=i/\i<=j/\j<=m/\j-i<=f/\GO (λh=> !AW (l.getD m AA.d) (l.getD h AA.d)) f i j=TA AA.d AW a m l:=C;obtain⟨J,S,K,U,u⟩:=C;have G:(((i:Int)+j)/2).toNat=(i+j)/2:=Dj;by_cases E:i<j
     .obtain⟨f,rfl⟩:∃H,f=H+1:=⟨f-1,Dj⟩
      by_cases I:FF (l.getD m AA.d).c.x (l.getD m AA.d).c.y (l.getD m AA.d).c.q (l.getD ((i+j)/2) AA.d).c.x (l.getD ((i+j)/2) AA.d).c.y (l.getD ((i+j)/2) AA.d).c.q<0
      .refine X0a _ ?_;(repeat' first|constructor|intro h)<;>refine Lm ?_
       all_goals(try simp only[Hv,Hw,CS,G]at*)
       all_goals(try first
        |exact A7)
       rw[b8n E (f66 (OQ.2 I))]at u;refine⟨(f,i,(i+j)/2),⟨J,Fe,H3,Gb,u⟩,E2,?_⟩;all_goals exact X2d
      .refine X0a _ ?_;(repeat' first|constructor|intro h)<;>refine Lm ?_
       all_goals(try simp only[Hv,Hw,CS,G]at*)
       all_goals(try first
        |exact A7)
       rw[b9e E (f82 (λM=>I (OQ.1 M)))]at u;refine⟨(f,(i+j)/2+1,j),⟨H4,Fd,K,Ga,u⟩,E2,?_⟩;all_goals exact X2d
     .rw[b2i E]at u;refine X0a _ ?_;(repeat' first|constructor|intro h)<;>refine Lm ?_
      all_goals(try simp only[Hv,Hw,CS]at*)
      all_goals(try first
       |exact A3)
      refine⟨(m-i,m,l),⟨Sub.refl l,by show _+(m-i)=m;omega,Ir _,by show RF AA.d (m-i) m l=_;rw[u]⟩,?_,?_⟩
      .exact X2d
      .rintro⟨f,k,L⟩ ⟨k1,k2,k4,k3⟩;have kl:=k1.1;have N:((k:Int)-1).toNat=k-1:=Dj;by_cases V:f=0
       .subst V;have kE:L=DV AA.d AW (F+1) a m b l:=by rw[R,<-k3];rfl
        exact X2e
       .obtain⟨f,rfl⟩:∃H,f=H+1:=⟨f-1,Dj⟩
        refine X0a _ ?_;(repeat' first|constructor|intro h)<;>refine Lm ?_
        all_goals(try simp only[Hv,N]at*)
        all_goals(try first
         |exact A3)
        have hs:=Pn (d:=AA.d) (l:=L) (i:=k) (j:=k-1) Dj Dj;refine⟨(f,k-1,EI AA.d L k (k-1)),⟨hs.trans k1,by show _+f=k-1;omega,by show k-1<=m;omega,k3⟩,E2,?_⟩;all_goals refine X0a _ ?_;(repeat' first|constructor|intro h)<;>refine Lm ?_
        all_goals(try simp only[Iy,CS])
        all_goals first|exact Ab|(show (k:Int)-1=((k-1:Nat):Int);omega)|skip
   .have Q:=d4a (d:=AA.d) (lt:=AW) (l:=l) h1 h2;have B:∀L:List Stk,L.length=l.length->AA.lst l.length (AA.row L)=L:=λL e=>by rw[<-e];exact RT.lst_row _ _
    have pq:∀L:List Stk,L.length=l.length->AA.isL l.length (AA.row L):=λL e=>by rw[<-e];exact AA.isL_row L
    by_cases hm:(a+b)/2<m
    .refine X0 _ ?_;(repeat' first|constructor|intro h)<;>refine Lm ?_
     all_goals(try simp only[Hv,CS]at*)
     all_goals(try first
      |exact A3)
     refine⟨((a+b)/2-((a+b)/2+m-b),(a+b)/2+m-b,(a+b)/2),⟨by show a<=(a+b)/2+m-b;omega,by show (a+b)/2+m-b<=(a+b)/2;omega,by show (a+b)/2<=m;omega,Ir _,Ir _,Ir _,by unfold GQ;rw[if_pos hm]⟩,?_,?_⟩
     .exact X2d
     .rintro⟨f,i,j⟩ C;replace C:a<=i/\i<=j/\j<=m/\(a+b)/2+m-b<=i/\j<=(a+b)/2/\j-i<=f/\GO (λc=> !AW (l.getD ((a+b)/2+m-1-c) AA.d) (l.getD c AA.d)) f i j=GQ AA.d AW a m b l:=C;obtain⟨J,S,K,X,Y,U,u⟩:=C;have G:(((i:Int)+j)/2).toNat=(i+j)/2:=Dj;have O:((((a+b)/2+m-1:Nat):Int)-((i:Int)+j)/2).toNat=(a+b)/2+m-1-(i+j)/2:=Dj;have z:((((a+b)/2+m:Nat):Int)-(i:Int)).toNat=(a+b)/2+m-i:=Dj;by_cases E:i<j
      .obtain⟨f,rfl⟩:∃H,f=H+1:=⟨f-1,Dj⟩
       by_cases I:FF (l.getD ((a+b)/2+m-1-(i+j)/2) AA.d).c.x (l.getD ((a+b)/2+m-1-(i+j)/2) AA.d).c.y (l.getD ((a+b)/2+m-1-(i+j)/2) AA.d).c.q (l.getD ((i+j)/2) AA.d).c.x (l.getD ((i+j)/2) AA.d).c.y (l.getD ((i+j)/2) AA.d).c.q<0
       .refine X0a _ ?_;(repeat' first|constructor|intro h)<;>refine Lm ?_
        all_goals(try simp only[Hv,Hw,CS,G,O]at*)
        all_goals(try first
         |exact A7)
        rw[b8n E (f66 (OQ.2 I))]at u;refine⟨(f,i,(i+j)/2),⟨J,Fe,H3,X,by show (i+j)/2<=(a+b)/2;omega,Gb,u⟩,E2,?_⟩;all_goals exact X2d
       .refine X0a _ ?_;(repeat' first|constructor|intro h)<;>refine Lm ?_
        all_goals(try simp only[Hv,Hw,CS,G,O]at*)
        all_goals(try first
         |exact A7)
        rw[b9e E (f82 (λM=>I (OQ.1 M)))]at u;refine⟨(f,(i+j)/2+1,j),⟨H4,Fd,K,by show _<=(i+j)/2+1;omega,Y,Ga,u⟩,E2,?_⟩;all_goals exact X2d
      .rw[b2i E]at u;rw[<-u]at Q;obtain⟨Z,Z1,hS3,hS4⟩:=Q;have t:DV AA.d AW (F+1) a m b l=if(a+b)/2<(a+b)/2+m-i/\(a+b)/2+m-i<b then DV AA.d AW F ((a+b)/2) ((a+b)/2+m-i) b (if a<i/\i<(a+b)/2 then DV AA.d AW F a i ((a+b)/2) (El AA.d a m b i l)else El AA.d a m b i l)else if a<i/\i<(a+b)/2 then DV AA.d AW F a i ((a+b)/2) (El AA.d a m b i l)else El AA.d a m b i l:=by rw[DV,Ii P,Ii W,<-u]
       clear u;by_cases A:i<m/\m<(a+b)/2+m-i
       .by_cases w:a<i/\i<(a+b)/2
        .by_cases v:(a+b)/2<(a+b)/2+m-i/\(a+b)/2+m-i<b
         .have sR:Sub (HO AA.d i m ((a+b)/2+m-i) l) l:=QO Dj Dj;have sQ:Sub (DV AA.d AW F a i ((a+b)/2) (HO AA.d i m ((a+b)/2+m-i) l)) l:=(KQ F a i _ _ Dj Dj Ej).trans sR;rw[Ih v,Ih w,El,Ih A]at t;refine X0a _ ?_;(repeat' first|constructor|intro h)<;>refine Lm ?_
          all_goals(try simp only[Hv,Hw,CS,z,B,sR.1,sQ.1,I1]at*)
          all_goals(try first
           |exact A0
           |(intro _ _;left;rw[t];done))
         .have sR:Sub (HO AA.d i m ((a+b)/2+m-i) l) l:=QO Dj Dj;have sQ:Sub (DV AA.d AW F a i ((a+b)/2) (HO AA.d i m ((a+b)/2+m-i) l)) l:=(KQ F a i _ _ Dj Dj Ej).trans sR;rw[Ii v,Ih w,El,Ih A]at t;refine X0a _ ?_;(repeat' first|constructor|intro h)<;>refine Lm ?_
          all_goals(try simp only[Hv,Hw,CS,z,B,sR.1,sQ.1,I1]at*)
          all_goals(try first
           |exact A0
           |(intro _ _;left;rw[t];done))
        .by_cases v:(a+b)/2<(a+b)/2+m-i/\(a+b)/2+m-i<b
         .have sR:Sub (HO AA.d i m ((a+b)/2+m-i) l) l:=QO Dj Dj;have sQ:Sub (HO AA.d i m ((a+b)/2+m-i) l) l:=sR;rw[Ih v,Ii w,El,Ih A]at t;refine X0a _ ?_;(repeat' first|constructor|intro h)<;>refine Lm ?_
          all_goals(try simp only[Hv,Hw,CS,z,B,sR.1,I1]at*)
          all_goals(try first
           |exact A0
           |(intro _ _;left;rw[t];done))
         .have sR:Sub (HO AA.d i m ((a+b)/2+m-i) l) l:=QO Dj Dj;have sQ:Sub (HO AA.d i m ((a+b)/2+m-i) l) l:=sR;rw[Ii v,Ii w,El,Ih A]at t;refine X0a _ ?_;(repeat' first|constructor|intro h)<;>refine Lm ?_
          all_goals(try simp only[Hv,Hw,CS,z,B,sR.1,I1]at*)
          all_goals(try first
           |exact A0
           |(intro _ _;left;rw[t];done))
       .by_cases w:a<i/\i<(a+b)/2
        .by_cases v:(a+b)/2<(a+b)/2+m-i/\(a+b)/2+m-i<b
         .have sR:Sub (l) l:=Sub.refl l;have sQ:Sub (DV AA.d AW F a i ((a+b)/2) (l)) l:=(KQ F a i _ _ Dj Dj Ej).trans sR;rw[Ih v,Ih w,El,Ii A]at t;refine X0a _ ?_;(repeat' first|constructor|intro h)<;>refine Lm ?_
          all_goals(try simp only[Hv,Hw,CS,z,B,sQ.1,I1]at*)
          all_goals(try first
           |exact A0
           |(intro _ _;left;rw[t];done))
         .have sR:Sub (l) l:=Sub.refl l;have sQ:Sub (DV AA.d AW F a i ((a+b)/2) (l)) l:=(KQ F a i _ _ Dj Dj Ej).trans sR;rw[Ii v,Ih w,El,Ii A]at t;refine X0a _ ?_;(repeat' first|constructor|intro h)<;>refine Lm ?_
          all_goals(try simp only[Hv,Hw,CS,z,B,sQ.1,I1]at*)
          all_goals(try first
           |exact A0
           |(intro _ _;left;rw[t];done))
        .by_cases v:(a+b)/2<(a+b)/2+m-i/\(a+b)/2+m-i<b
         .have sR:Sub (l) l:=Sub.refl l;have sQ:Sub (l) l:=sR;rw[Ih v,Ii w,El,Ii A]at t;refine X0a _ ?_;(repeat' first|constructor|intro h)<;>refine Lm ?_
          all_goals(try simp only[Hv,Hw,CS,z,B,I1]at*)
          all_goals(try first
           |exact A0
           |(intro _ _;left;rw[t];done))
         .have sR:Sub (l) l:=Sub.refl l;have sQ:Sub (l) l:=sR;rw[Ii v,Ii w,El,Ii A]at t;refine X0a _ ?_;(repeat' first|constructor|intro h)<;>refine Lm ?_
          all_goals(try simp only[Hv,Hw,CS,z,B,I1]at*)
          all_goals(try first
           |exact A0
           |(intro _ _;left;rw[t];done))
    .refine X0 _ ?_;(repeat' first|constructor|intro h)<;>refine Lm ?_
     all_goals(try simp only[Hv,CS]at*)
     all_goals(try first
      |exact A3)
     refine⟨(m-a,a,m),⟨Ir _,by show a<=m;omega,Ir _,by show (a+b)/2+m-b<=a;omega,by show m<=(a+b)/2;omega,Ir _,by unfold GQ;rw[if_neg hm]⟩,?_,?_⟩
     .exact X2d
     .rintro⟨f,i,j⟩ C;replace C:a<=i/\i<=j/\j<=m/\(a+b)/2+m-b<=i/\j<=(a+b)/2/\j-i<=f/\GO (λc=> !AW (l.getD ((a+b)/2+m-1-c) AA.d) (l.getD c AA.d)) f i j=GQ AA.d AW a m b l:=C;obtain⟨J,S,K,X,Y,U,u⟩:=C;have G:(((i:Int)+j)/2).toNat=(i+j)/2:=Dj;have O:((((a+b)/2+m-1:Nat):Int)-((i:Int)+j)/2).toNat=(a+b)/2+m-1-(i+j)/2:=Dj;have z:((((a+b)/2+m:Nat):Int)-(i:Int)).toNat=(a+b)/2+m-i:=Dj;by_cases E:i<j
      .obtain⟨f,rfl⟩:∃H,f=H+1:=⟨f-1,Dj⟩
       by_cases I:FF (l.getD ((a+b)/2+m-1-(i+j)/2) AA.d).c.x (l.getD ((a+b)/2+m-1-(i+j)/2) AA.d).c.y (l.getD ((a+b)/2+m-1-(i+j)/2) AA.d).c.q (l.getD ((i+j)/2) AA.d).c.x (l.getD ((i+j)/2) AA.d).c.y (l.getD ((i+j)/2) AA.d).c.q<0
       .refine X0a _ ?_;(repeat' first|constructor|intro h)<;>refine Lm ?_
        all_goals(try simp only[Hv,Hw,CS,G,O]at*)
        all_goals(try first
         |exact A7)
        rw[b8n E (f66 (OQ.2 I))]at u;refine⟨(f,i,(i+j)/2),⟨J,Fe,H3,X,by show (i+j)/2<=(a+b)/2;omega,Gb,u⟩,E2,?_⟩;all_goals exact X2d
       .refine X0a _ ?_;(repeat' first|constructor|intro h)<;>refine Lm ?_
        all_goals(try simp only[Hv,Hw,CS,G,O]at*)
        all_goals(try first
         |exact A7)
        rw[b9e E (f82 (λM=>I (OQ.1 M)))]at u;refine⟨(f,(i+j)/2+1,j),⟨H4,Fd,K,by show _<=(i+j)/2+1;omega,Y,Ga,u⟩,E2,?_⟩;all_goals exact X2d
      .rw[b2i E]at u;rw[<-u]at Q;obtain⟨Z,Z1,hS3,hS4⟩:=Q;have t:DV AA.d AW (F+1) a m b l=if(a+b)/2<(a+b)/2+m-i/\(a+b)/2+m-i<b then DV AA.d AW F ((a+b)/2) ((a+b)/2+m-i) b (if a<i/\i<(a+b)/2 then DV AA.d AW F a i ((a+b)/2) (El AA.d a m b i l)else El AA.d a m b i l)else if a<i/\i<(a+b)/2 then DV AA.d AW F a i ((a+b)/2) (El AA.d a m b i l)else El AA.d a m b i l:=by rw[DV,Ii P,Ii W,<-u]
       clear u;by_cases A:i<m/\m<(a+b)/2+m-i
       .by_cases w:a<i/\i<(a+b)/2
        .by_cases v:(a+b)/2<(a+b)/2+m-i/\(a+b)/2+m-i<b
         .have sR:Sub (HO AA.d i m ((a+b)/2+m-i) l) l:=QO Dj Dj;have sQ:Sub (DV AA.d AW F a i ((a+b)/2) (HO AA.d i m ((a+b)/2+m-i) l)) l:=(KQ F a i _ _ Dj Dj Ej).trans sR;rw[Ih v,Ih w,El,Ih A]at t;refine X0a _ ?_;(repeat' first|constructor|intro h)<;>refine Lm ?_
          all_goals(try simp only[Hv,Hw,CS,z,B,sR.1,sQ.1,I1]at*)
          all_goals(try first
           |exact A0
           |(intro _ _;left;rw[t];done))
         .have sR:Sub (HO AA.d i m ((a+b)/2+m-i) l) l:=QO Dj Dj;have sQ:Sub (DV AA.d AW F a i ((a+b)/2) (HO AA.d i m ((a+b)/2+m-i) l)) l:=(KQ F a i _ _ Dj Dj Ej).trans sR;rw[Ii v,Ih w,El,Ih A]at t;refine X0a _ ?_;(repeat' first|constructor|intro h)<;>refine Lm ?_
          all_goals(try simp only[Hv,Hw,CS,z,B,sR.1,sQ.1,I1]at*)
          all_goals(try first
           |exact A0
           |(intro _ _;left;rw[t];done))
        .by_cases v:(a+b)/2<(a+b)/2+m-i/\(a+b)/2+m-i<b
         .have sR:Sub (HO AA.d i m ((a+b)/2+m-i) l) l:=QO Dj Dj;have sQ:Sub (HO AA.d i m ((a+b)/2+m-i) l) l:=sR;rw[Ih v,Ii w,El,Ih A]at t;refine X0a _ ?_;(repeat' first|constructor|intro h)<;>refine Lm ?_
          all_goals(try simp only[Hv,Hw,CS,z,B,sR.1,I1]at*)
          all_goals(try first
           |exact A0
           |(intro _ _;left;rw[t];done))
         .have sR:Sub (HO AA.d i m ((a+b)/2+m-i) l) l:=QO Dj Dj;have sQ:Sub (HO AA.d i m ((a+b)/2+m-i) l) l:=sR;rw[Ii v,Ii w,El,Ih A]at t;refine X0a _ ?_;(repeat' first|constructor|intro h)<;>refine Lm ?_
          all_goals(try simp only[Hv,Hw,CS,z,B,sR.1,I1]at*)
          all_goals(try first
           |exact A0
           |(intro _ _;left;rw[t];done))
       .by_cases w:a<i/\i<(a+b)/2
        .by_cases v:(a+b)/2<(a+b)/2+m-i/\(a+b)/2+m-i<b
         .have sR:Sub (l) l:=Sub.refl l;have sQ:Sub (DV AA.d AW F a i ((a+b)/2) (l)) l:=(KQ F a i _ _ Dj Dj Ej).trans sR;rw[Ih v,Ih w,El,Ii A]at t;refine X0a _ ?_;(repeat' first|constructor|intro h)<;>refine Lm ?_
          all_goals(try simp only[Hv,Hw,CS,z,B,sQ.1,I1]at*)
          all_goals(try first
           |exact A0
           |(intro _ _;left;rw[t];done))
         .have sR:Sub (l) l:=Sub.refl l;have sQ:Sub (DV AA.d AW F a i ((a+b)/2) (l)) l:=(KQ F a i _ _ Dj Dj Ej).trans sR;rw[Ii v,Ih w,El,Ii A]at t;refine X0a _ ?_;(repeat' first|constructor|intro h)<;>refine Lm ?_
          all_goals(try simp only[Hv,Hw,CS,z,B,sQ.1,I1]at*)
          all_goals(try first
           |exact A0
           |(intro _ _;left;rw[t];done))
        .by_cases v:(a+b)/2<(a+b)/2+m-i/\(a+b)/2+m-i<b
         .have sR:Sub (l) l:=Sub.refl l;have sQ:Sub (l) l:=sR;rw[Ih v,Ii w,El,Ii A]at t;refine X0a _ ?_;(repeat' first|constructor|intro h)<;>refine Lm ?_
          all_goals(try simp only[Hv,Hw,CS,z,B,I1]at*)
          all_goals(try first
           |exact A0
           |(intro _ _;left;rw[t];done))
         .have sR:Sub (l) l:=Sub.refl l;have sQ:Sub (l) l:=sR;rw[Ii v,Ii w,El,Ii A]at t;refine X0a _ ?_;(repeat' first|constructor|intro h)<;>refine Lm ?_
          all_goals(try simp only[Hv,Hw,CS,z,B,I1]at*)
          all_goals(try first
           |exact A0
           |(intro _ _;left;rw[t];done))
end Go.Proofs.YtngppkidkigcbaaGreatDoor.V
