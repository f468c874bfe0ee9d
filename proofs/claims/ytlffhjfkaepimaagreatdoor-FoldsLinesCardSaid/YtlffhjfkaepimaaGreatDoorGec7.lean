/-
  Parts of the proof: A32. Conditions: none.
-/
import Derived.Test.YtlffhjfkaepimaaGreatDoorGec6
set_option maxRecDepth 100000
set_option maxHeartbeats 40000000
namespace Go.Proofs.YtlffhjfkaepimaaGreatDoor.V
open Go
theorem DU: @HPow.hPow Int Nat Int (@instHPow Int Nat (@instPowNat Int Int.instNatPow)) (2:Int) (Int.toNat 1)=2:=rfl
theorem b3d{p:Nat->Bool}{f i j:Nat}(h:¬i<j):IB p f i j=i:=by cases f<;>simp[IB,h]
theorem c1q{p:Nat->Bool}{f i j:Nat}(h:i<j)(a:p ((i+j)/2)=true):IB p (f+1) i j=IB p f ((i+j)/2+1) j:=by rw[IB,Ji h,Ji a]
theorem c0t{p:Nat->Bool}{f i j:Nat}(h:i<j)(a:¬p ((i+j)/2)=true):IB p (f+1) i j=IB p f i ((i+j)/2):=by rw[IB,Ji h,Jj a]
theorem g2c{b:Bool}(h:b=true):¬(!b)=true:=by simp[h]
theorem g4g{b:Bool}(h:¬b=true):(!b)=true:=E6
def TQ(F:Nat):HK:=λe own=>match e,own with
 | [.osl 0,.int .i64 a,.int .i64 m,.int .i64 b,.clo f []],[.row T 4 n g _]=>if T=DR/\f=68 then some ⟨AA.isL n g/\n<=100000/\0<=a/\a<m/\m<b/\b<=n/\b-a<=F/\(∀s∈AA.lst n g,AD .u8 s.c.q),.tup [],[.row DR 4 (AA.lst n g).length (AA.row (EV AA.d Ao F a.toNat m.toNat b.toNat (AA.lst n g))) none],[]⟩else none
 |_,_=>none
def FSym(F:Nat):FamH:=⟨List Stk×Nat×Nat×Nat,λ(_,a,m,b)=>[.osl 0,.int .i64 a,.int .i64 m,.int .i64 b,.clo 68 []],λ(l,_)=>[.row DR 4 l.length (AA.row l) none],λ(l,a,m,b)=>l.length<=100000/\a<m/\m<b/\b<=l.length/\b-a<=F/\∀s∈l,AD .u8 s.c.q,λ_=>.tup [],λ(l,a,m,b)=>[.row DR 4 l.length (AA.row (EV AA.d Ao F a m b l)) none],[]⟩
def ISym:List Stk×Nat×Nat×Nat->Nat->Option Inv
 |(l,a,m,b),3=>some {β:=Nat×Nat×Nat,ok:=λ(f,i,j)=>m<=i/\i<=j/\j<=b/\j-i<=f/\IB (λh=>Ao (l.getD h AA.d) (l.getD a AA.d)) f i j=SU AA.d Ao a m b l,st:=λ(_,i,j)=>⟨[⟨11,none,.int .i64 j⟩,⟨10,none,.int .i64 i⟩,⟨4,none,.clo 68 []⟩,⟨3,none,.int .i64 b⟩,⟨2,none,.int .i64 m⟩,⟨1,none,.int .i64 a⟩,⟨0,none,.osl 0⟩],[.row DR 4 l.length (AA.row l) none]⟩,μ:=λ(f,_)=>f}
 |(l,a,m,b),9=>some {β:=Nat×Nat×List Stk,ok:=λ(f,k,L)=>Sub L l/\k+f+1=SU AA.d Ao a m b l/\So AA.d f k L=So AA.d (SU AA.d Ao a m b l-1-a) a l,st:=λ(_,k,L)=>⟨[⟨13,none,.int .i64 k⟩,⟨10,none,.int .i64 ((SU AA.d Ao a m b l:Nat):Int)⟩,⟨4,none,.clo 68 []⟩,⟨3,none,.int .i64 b⟩,⟨2,none,.int .i64 m⟩,⟨1,none,.int .i64 a⟩,⟨0,none,.osl 0⟩],[.row DR 4 l.length (AA.row L) none]⟩,μ:=λ(f,_)=>f}
 |(l,a,m,b),15=>some {β:=Nat×Nat×Nat,ok:=λ(f,i,j)=>a<=i/\i<=j/\j<=m/\j-i<=f/\IB (λh=> !Ao (l.getD m AA.d) (l.getD h AA.d)) f i j=Ve AA.d Ao a m l,st:=λ(_,i,j)=>⟨[⟨15,none,.int .i64 j⟩,⟨14,none,.int .i64 i⟩,⟨4,none,.clo 68 []⟩,⟨3,none,.int .i64 b⟩,⟨2,none,.int .i64 m⟩,⟨1,none,.int .i64 a⟩,⟨0,none,.osl 0⟩],[.row DR 4 l.length (AA.row l) none]⟩,μ:=λ(f,_)=>f}
 |(l,a,m,b),21=>some {β:=Nat×Nat×List Stk,ok:=λ(f,k,L)=>Sub L l/\Ve AA.d Ao a m l+f=k/\k<=m/\TZ AA.d f k L=TZ AA.d (m-Ve AA.d Ao a m l) m l,st:=λ(_,k,L)=>⟨[⟨17,none,.int .i64 k⟩,⟨14,none,.int .i64 ((Ve AA.d Ao a m l:Nat):Int)⟩,⟨4,none,.clo 68 []⟩,⟨3,none,.int .i64 b⟩,⟨2,none,.int .i64 m⟩,⟨1,none,.int .i64 a⟩,⟨0,none,.osl 0⟩],[.row DR 4 l.length (AA.row L) none]⟩,μ:=λ(f,_)=>f}
 |(l,a,m,b),33=>some {β:=Nat×Nat×Nat,ok:=λ(f,i,j)=>a<=i/\i<=j/\j<=m/\(a+b)/2+m-b<=i/\j<=(a+b)/2/\j-i<=f/\IB (λc=> !Ao (l.getD ((a+b)/2+m-1-c) AA.d) (l.getD c AA.d)) f i j=IF AA.d Ao a m b l,st:=λ(_,i,j)=>⟨[⟨22,none,.int .i64 ((((a+b)/2+m-1:Nat)):Int)⟩,⟨21,none,.int .i64 j⟩,⟨20,none,.int .i64 i⟩,⟨19,none,.int .i64 ((((a+b)/2+m:Nat)):Int)⟩,⟨18,none,.int .i64 ((((a+b)/2:Nat)):Int)⟩,⟨4,none,.clo 68 []⟩,⟨3,none,.int .i64 b⟩,⟨2,none,.int .i64 m⟩,⟨1,none,.int .i64 a⟩,⟨0,none,.osl 0⟩],[.row DR 4 l.length (AA.row l) none]⟩,μ:=λ(f,_)=>f}
 |_,_=>none
theorem pSym1(F:Nat)(ih:HS 174 (TQ F)):HS 174 (TQ (F+1)):=by
 refine JO {l:=[(68,YD)],h:=[(174,TQ F),(231,hRot)]} ⟨by simpa using pMv2,E2,by simpa using⟨ih,pRot⟩⟩ (FSym (F+1)) ISym (TQ (F+1)) ?_ ?_ ?_ Tryz.func174 E1 E1 E1 ?_
 .intro args own r h hp;unfold TQ at h;split at h
  .rename_i a m b f T n g c;split at h
   .rename_i hT;obtain⟨rfl,rfl⟩:=hT;cases h;obtain⟨p1,p2,p3,p4,p5,p6,p7,p8⟩:=hp;have hl:=RT.lst_length AA n g;exact⟨(AA.lst n g,a.toNat,m.toNat,b.toNat),⟨Ea,En,En,En,Ea,Jm⟩,rfl,Xc p1,⟨Dz,Dz,Dz,Dz,Dz,p8⟩,rfl,rfl,rfl⟩
   .cases h
  .cases h
 .exact Cf
 .exact C5
 .rintro⟨l,a,m,b⟩ μ ⟨h0,h1,h2,h3,h4,h5⟩;have hq:∀x,x<l.length->AD .u8 (l.getD x AA.d).c.q:=λx hx=>h5 _ (by rw[Jg,Jh hx,L5];exact Kj _);have e2:(2:Int)^Int.toNat 1=2:=rfl;have e2: @HPow.hPow Int Nat Int (@instHPow Int Nat (@instPowNat Int Int.instNatPow)) (2:Int) (Int.toNat 1)=2:=rfl;by_cases O:m-a=1
  .have jx:=VI (p:=λh=>Ao (l.getD h AA.d) (l.getD a AA.d)) (b-m) m b Dz;have Q:EV AA.d Ao (F+1) a m b l=So AA.d (SU AA.d Ao a m b l-1-a) a l:=by rw[EV,Ji O]
   refine X0a _ ?_;(repeat' first|constructor|intro h)<;>refine Lm ?_
   all_goals(try simp only[Ir,DU]at*)
   all_goals(try first
    |exact A4)
   refine⟨(b-m,m,b),⟨Jp _,by show m<=b;omega,Jp _,Jp _,rfl⟩,?_,?_⟩
   .exact X2e
   .rintro⟨f,i,j⟩ B;replace B:m<=i/\i<=j/\j<=b/\j-i<=f/\IB (λh=>Ao (l.getD h AA.d) (l.getD a AA.d)) f i j=SU AA.d Ao a m b l:=B;obtain⟨I,R,J,S,u⟩:=B;have E:(((i:Int)+j)/2).toNat=(i+j)/2:=Dz;by_cases C:i<j
    .obtain⟨f,rfl⟩:∃G,f=G+1:=⟨f-1,Dz⟩
     by_cases H:GM (l.getD ((i+j)/2) AA.d).c.x (l.getD ((i+j)/2) AA.d).c.y (l.getD ((i+j)/2) AA.d).c.q (l.getD a AA.d).c.x (l.getD a AA.d).c.y (l.getD a AA.d).c.q<0
     .refine X0b _ ?_;(repeat' first|constructor|intro h)<;>refine Lm ?_
      all_goals(try simp only[Ir,DU,E]at*)
      all_goals(try first
       |exact A9)
      rw[c1q C (QY.2 H)]at u;refine⟨(f,(i+j)/2+1,j),⟨by show m<=(i+j)/2+1;omega,G7,J,H2,u⟩,Ei,?_⟩;all_goals exact X2g
     .refine X0b _ ?_;(repeat' first|constructor|intro h)<;>refine Lm ?_
      all_goals(try simp only[Ir,DU,E]at*)
      all_goals(try first
       |exact A9)
      rw[c0t C (λK=>H (QY.1 K))]at u;refine⟨(f,i,(i+j)/2),⟨I,G8,by show (i+j)/2<=b;omega,H3,u⟩,Ei,?_⟩;all_goals exact X2g
    .rw[b3d C]at u;refine X0b _ ?_;(repeat' first|constructor|intro h)<;>refine Lm ?_
     all_goals(try simp only[Ir,DU]at*)
     all_goals(try first
      |exact A4)
     refine⟨(i-1-a,a,l),⟨Sub.refl l,by show a+(i-1-a)+1=_;omega,by show So AA.d (i-1-a) a l=_;rw[u]⟩,?_,?_⟩
     .exact X2g
     .rintro⟨f,k,L⟩ ⟨k1,k2,k3⟩;have kl:=k1.1;have hub:SU AA.d Ao a m b l<=b:=jx.2;have M:((k:Int)+1).toNat=k+1:=Dz;by_cases U:f=0
      .subst U;have kE:L=EV AA.d Ao (F+1) a m b l:=by rw[Q,<-k3];rfl
       exact X2h
      .obtain⟨f,rfl⟩:∃G,f=G+1:=⟨f-1,Dz⟩
       refine X0b _ ?_;(repeat' first|constructor|intro h)<;>refine Lm ?_
       all_goals(try simp only[Ir,M]at*)
       all_goals(try first
        |exact A4)
       have hs:=Rt (d:=AA.d) (l:=L) (i:=k) (j:=k+1) Dz Dz;refine⟨(f,k+1,FJ AA.d L k (k+1)),⟨hs.trans k1,by show k+1+f+1=_;omega,k3⟩,Ei,?_⟩;all_goals exact X2g
  .by_cases V:b-m=1
   .have jx:=VI (p:=λh=> !Ao (l.getD m AA.d) (l.getD h AA.d)) (m-a) a m Dz;have Q:EV AA.d Ao (F+1) a m b l=TZ AA.d (m-Ve AA.d Ao a m l) m l:=by rw[EV,Jj O,Ji V]
    refine X0a _ ?_;(repeat' first|constructor|intro h)<;>refine Lm ?_
    all_goals(try simp only[Ir,DU]at*)
    all_goals(try first
     |exact A4)
    refine⟨(m-a,a,m),⟨Jp _,by show a<=m;omega,Jp _,Jp _,rfl⟩,?_,?_⟩
    .exact X2e
    .rintro⟨f,i,j⟩ B;replace B:a<=i/\i<=j/\j<=m/\j-i<=f/\IB (λh=> !Ao (l.getD m AA.d) (l.getD h AA.d)) f i j=Ve AA.d Ao a m l:=B;obtain⟨I,R,J,S,u⟩:=B;have E:(((i:Int)+j)/2).toNat=(i+j)/2:=Dz;by_cases C:i<j
     .obtain⟨f,rfl⟩:∃G,f=G+1:=⟨f-1,Dz⟩
      by_cases H:GM (l.getD m AA.d).c.x (l.getD m AA.d).c.y (l.getD m AA.d).c.q (l.getD ((i+j)/2) AA.d).c.x (l.getD ((i+j)/2) AA.d).c.y (l.getD ((i+j)/2) AA.d).c.q<0
      .refine X0b _ ?_;(repeat' first|constructor|intro h)<;>refine Lm ?_
       all_goals(try simp only[Ir,Is,DU,E]at*)
       all_goals(try first
        |exact A9)
       rw[c0t C (g2c (QY.2 H))]at u;refine⟨(f,i,(i+j)/2),⟨I,G8,Hz,H3,u⟩,Ei,?_⟩;all_goals exact X2g
      .refine X0b _ ?_;(repeat' first|constructor|intro h)<;>refine Lm ?_
       all_goals(try simp only[Ir,Is,DU,E]at*)
       all_goals(try first
        |exact A9)
       rw[c1q C (g4g (λK=>H (QY.1 K)))]at u;refine⟨(f,(i+j)/2+1,j),⟨I0,G7,J,H2,u⟩,Ei,?_⟩;all_goals exact X2g
     .rw[b3d C]at u;refine X0b _ ?_;(repeat' first|constructor|intro h)<;>refine Lm ?_
      all_goals(try simp only[Ir,Is,DU]at*)
      all_goals(try first
       |exact A4)
      refine⟨(m-i,m,l),⟨Sub.refl l,by show _+(m-i)=m;omega,Jp _,by show TZ AA.d (m-i) m l=_;rw[u]⟩,?_,?_⟩
      .exact X2g
      .rintro⟨f,k,L⟩ ⟨k1,k2,k4,k3⟩;have kl:=k1.1;have M:((k:Int)-1).toNat=k-1:=Dz;by_cases U:f=0
       .subst U;have kE:L=EV AA.d Ao (F+1) a m b l:=by rw[Q,<-k3];rfl
        exact X2h
       .obtain⟨f,rfl⟩:∃G,f=G+1:=⟨f-1,Dz⟩
        refine X0b _ ?_;(repeat' first|constructor|intro h)<;>refine Lm ?_
        all_goals(try simp only[Ir,M]at*)
        all_goals(try first
         |exact A4)
        have hs:=Rt (d:=AA.d) (l:=L) (i:=k) (j:=k-1) Dz Dz;refine⟨(f,k-1,FJ AA.d L k (k-1)),⟨hs.trans k1,by show _+f=k-1;omega,by show k-1<=m;omega,k3⟩,Ei,?_⟩;all_goals refine X0b _ ?_;(repeat' first|constructor|intro h)<;>refine Lm ?_
        all_goals(try simp only[K0,DU])
        all_goals first|exact Ab|(show (k:Int)-1=((k-1:Nat):Int);omega)|skip
   .have P:=d9e (d:=AA.d) (lt:=Ao) (l:=l) h1 h2;have A:∀L:List Stk,L.length=l.length->AA.lst l.length (AA.row L)=L:=λL e=>by rw[<-e];exact RT.lst_row _ _
    have sw:∀L:List Stk,L.length=l.length->AA.isL l.length (AA.row L):=λL e=>by rw[<-e];exact AA.isL_row L
    by_cases hm:(a+b)/2<m
    .refine X0a _ ?_;(repeat' first|constructor|intro h)<;>refine Lm ?_
     all_goals(try simp only[Ir,DU]at*)
     all_goals(try first
      |exact A4)
     refine⟨((a+b)/2-((a+b)/2+m-b),(a+b)/2+m-b,(a+b)/2),⟨by show a<=(a+b)/2+m-b;omega,by show (a+b)/2+m-b<=(a+b)/2;omega,by show (a+b)/2<=m;omega,Jp _,Jp _,Jp _,by unfold IF;rw[if_pos hm]⟩,?_,?_⟩
     .exact X2g
     .rintro⟨f,i,j⟩ B;replace B:a<=i/\i<=j/\j<=m/\(a+b)/2+m-b<=i/\j<=(a+b)/2/\j-i<=f/\IB (λc=> !Ao (l.getD ((a+b)/2+m-1-c) AA.d) (l.getD c AA.d)) f i j=IF AA.d Ao a m b l:=B;obtain⟨I,R,J,W,X,S,u⟩:=B;have E:(((i:Int)+j)/2).toNat=(i+j)/2:=Dz;have N:((((a+b)/2+m-1:Nat):Int)-((i:Int)+j)/2).toNat=(a+b)/2+m-1-(i+j)/2:=Dz;have z:((((a+b)/2+m:Nat):Int)-(i:Int)).toNat=(a+b)/2+m-i:=Dz;by_cases C:i<j
      .obtain⟨f,rfl⟩:∃G,f=G+1:=⟨f-1,Dz⟩
       by_cases H:GM (l.getD ((a+b)/2+m-1-(i+j)/2) AA.d).c.x (l.getD ((a+b)/2+m-1-(i+j)/2) AA.d).c.y (l.getD ((a+b)/2+m-1-(i+j)/2) AA.d).c.q (l.getD ((i+j)/2) AA.d).c.x (l.getD ((i+j)/2) AA.d).c.y (l.getD ((i+j)/2) AA.d).c.q<0
       .refine X0b _ ?_;(repeat' first|constructor|intro h)<;>refine Lm ?_
        all_goals(try simp only[Ir,Is,DU,E,N]at*)
        all_goals(try first
         |exact A9)
        rw[c0t C (g2c (QY.2 H))]at u;refine⟨(f,i,(i+j)/2),⟨I,G8,Hz,W,by show (i+j)/2<=(a+b)/2;omega,H3,u⟩,Ei,?_⟩;all_goals exact X2g
       .refine X0b _ ?_;(repeat' first|constructor|intro h)<;>refine Lm ?_
        all_goals(try simp only[Ir,Is,DU,E,N]at*)
        all_goals(try first
         |exact A9)
        rw[c1q C (g4g (λK=>H (QY.1 K)))]at u;refine⟨(f,(i+j)/2+1,j),⟨I0,G7,J,by show _<=(i+j)/2+1;omega,X,H2,u⟩,Ei,?_⟩;all_goals exact X2g
      .rw[b3d C]at u;rw[<-u]at P;obtain⟨Y,Z,hS3,hS4⟩:=P;have t:EV AA.d Ao (F+1) a m b l=if(a+b)/2<(a+b)/2+m-i/\(a+b)/2+m-i<b then EV AA.d Ao F ((a+b)/2) ((a+b)/2+m-i) b (if a<i/\i<(a+b)/2 then EV AA.d Ao F a i ((a+b)/2) (GD AA.d a m b i l)else GD AA.d a m b i l)else if a<i/\i<(a+b)/2 then EV AA.d Ao F a i ((a+b)/2) (GD AA.d a m b i l)else GD AA.d a m b i l:=by rw[EV,Jj O,Jj V,<-u]
       clear u;by_cases c1:i<m/\m<(a+b)/2+m-i
       .by_cases w:a<i/\i<(a+b)/2
        .by_cases v:(a+b)/2<(a+b)/2+m-i/\(a+b)/2+m-i<b
         .have sR:Sub (JF AA.d i m ((a+b)/2+m-i) l) l:=SY Dz Dz;have sQ:Sub (EV AA.d Ao F a i ((a+b)/2) (JF AA.d i m ((a+b)/2+m-i) l)) l:=(MW F a i _ _ Dz Dz F5).trans sR;rw[Ji v,Ji w,GD,Ji c1]at t;refine X0b _ ?_;(repeat' first|constructor|intro h)<;>refine Lm ?_
          all_goals(try simp only[Ir,Is,DU,z,A,sR.1,sQ.1,Ix]at*)
          all_goals(try first
           |exact A0
           |(intro _ _;left;rw[t];done))
         .have sR:Sub (JF AA.d i m ((a+b)/2+m-i) l) l:=SY Dz Dz;have sQ:Sub (EV AA.d Ao F a i ((a+b)/2) (JF AA.d i m ((a+b)/2+m-i) l)) l:=(MW F a i _ _ Dz Dz F5).trans sR;rw[Jj v,Ji w,GD,Ji c1]at t;refine X0b _ ?_;(repeat' first|constructor|intro h)<;>refine Lm ?_
          all_goals(try simp only[Ir,Is,DU,z,A,sR.1,sQ.1,Ix]at*)
          all_goals(try first
           |exact A0
           |(intro _ _;left;rw[t];done))
        .by_cases v:(a+b)/2<(a+b)/2+m-i/\(a+b)/2+m-i<b
         .have sR:Sub (JF AA.d i m ((a+b)/2+m-i) l) l:=SY Dz Dz;have sQ:Sub (JF AA.d i m ((a+b)/2+m-i) l) l:=sR;rw[Ji v,Jj w,GD,Ji c1]at t;refine X0b _ ?_;(repeat' first|constructor|intro h)<;>refine Lm ?_
          all_goals(try simp only[Ir,Is,DU,z,A,sR.1,Ix]at*)
          all_goals(try first
           |exact A0
           |(intro _ _;left;rw[t];done))
         .have sR:Sub (JF AA.d i m ((a+b)/2+m-i) l) l:=SY Dz Dz;have sQ:Sub (JF AA.d i m ((a+b)/2+m-i) l) l:=sR;rw[Jj v,Jj w,GD,Ji c1]at t;refine X0b _ ?_;(repeat' first|constructor|intro h)<;>refine Lm ?_
          all_goals(try simp only[Ir,Is,DU,z,A,sR.1,Ix]at*)
          all_goals(try first
           |exact A0
           |(intro _ _;left;rw[t];done))
       .by_cases w:a<i/\i<(a+b)/2
        .by_cases v:(a+b)/2<(a+b)/2+m-i/\(a+b)/2+m-i<b
         .have sR:Sub (l) l:=Sub.refl l;have sQ:Sub (EV AA.d Ao F a i ((a+b)/2) (l)) l:=(MW F a i _ _ Dz Dz F5).trans sR;rw[Ji v,Ji w,GD,Jj c1]at t;refine X0b _ ?_;(repeat' first|constructor|intro h)<;>refine Lm ?_
          all_goals(try simp only[Ir,Is,DU,z,A,sQ.1,Ix]at*)
          all_goals(try first
           |exact A0
           |(intro _ _;left;rw[t];done))
         .have sR:Sub (l) l:=Sub.refl l;have sQ:Sub (EV AA.d Ao F a i ((a+b)/2) (l)) l:=(MW F a i _ _ Dz Dz F5).trans sR;rw[Jj v,Ji w,GD,Jj c1]at t;refine X0b _ ?_;(repeat' first|constructor|intro h)<;>refine Lm ?_
          all_goals(try simp only[Ir,Is,DU,z,A,sQ.1,Ix]at*)
          all_goals(try first
           |exact A0
           |(intro _ _;left;rw[t];done))
        .by_cases v:(a+b)/2<(a+b)/2+m-i/\(a+b)/2+m-i<b
         .have sR:Sub (l) l:=Sub.refl l;have sQ:Sub (l) l:=sR;rw[Ji v,Jj w,GD,Jj c1]at t;refine X0b _ ?_;(repeat' first|constructor|intro h)<;>refine Lm ?_
          all_goals(try simp only[Ir,Is,DU,z,A,Ix]at*)
          all_goals(try first
           |exact A0
           |(intro _ _;left;rw[t];done))
         .have sR:Sub (l) l:=Sub.refl l;have sQ:Sub (l) l:=sR;rw[Jj v,Jj w,GD,Jj c1]at t;refine X0b _ ?_;(repeat' first|constructor|intro h)<;>refine Lm ?_
          all_goals(try simp only[Ir,Is,DU,z,A,Ix]at*)
          all_goals(try first
           |exact A0
           |(intro _ _;left;rw[t];done))
    .refine X0a _ ?_;(repeat' first|constructor|intro h)<;>refine Lm ?_
     all_goals(try simp only[Ir,DU]at*)
     all_goals(try first
      |exact A4)
     refine⟨(m-a,a,m),⟨Jp _,by show a<=m;omega,Jp _,by show (a+b)/2+m-b<=a;omega,by show m<=(a+b)/2;omega,Jp _,by unfold IF;rw[if_neg hm]⟩,?_,?_⟩
     .exact X2g
     .rintro⟨f,i,j⟩ B;replace B:a<=i/\i<=j/\j<=m/\(a+b)/2+m-b<=i/\j<=(a+b)/2/\j-i<=f/\IB (λc=> !Ao (l.getD ((a+b)/2+m-1-c) AA.d) (l.getD c AA.d)) f i j=IF AA.d Ao a m b l:=B;obtain⟨I,R,J,W,X,S,u⟩:=B;have E:(((i:Int)+j)/2).toNat=(i+j)/2:=Dz;have N:((((a+b)/2+m-1:Nat):Int)-((i:Int)+j)/2).toNat=(a+b)/2+m-1-(i+j)/2:=Dz;have z:((((a+b)/2+m:Nat):Int)-(i:Int)).toNat=(a+b)/2+m-i:=Dz;by_cases C:i<j
      .obtain⟨f,rfl⟩:∃G,f=G+1:=⟨f-1,Dz⟩
       by_cases H:GM (l.getD ((a+b)/2+m-1-(i+j)/2) AA.d).c.x (l.getD ((a+b)/2+m-1-(i+j)/2) AA.d).c.y (l.getD ((a+b)/2+m-1-(i+j)/2) AA.d).c.q (l.getD ((i+j)/2) AA.d).c.x (l.getD ((i+j)/2) AA.d).c.y (l.getD ((i+j)/2) AA.d).c.q<0
       .refine X0b _ ?_;(repeat' first|constructor|intro h)<;>refine Lm ?_
        all_goals(try simp only[Ir,Is,DU,E,N]at*)
        all_goals(try first
         |exact A9)
        rw[c0t C (g2c (QY.2 H))]at u;refine⟨(f,i,(i+j)/2),⟨I,G8,Hz,W,by show (i+j)/2<=(a+b)/2;omega,H3,u⟩,Ei,?_⟩;all_goals exact X2g
       .refine X0b _ ?_;(repeat' first|constructor|intro h)<;>refine Lm ?_
        all_goals(try simp only[Ir,Is,DU,E,N]at*)
        all_goals(try first
         |exact A9)
        rw[c1q C (g4g (λK=>H (QY.1 K)))]at u;refine⟨(f,(i+j)/2+1,j),⟨I0,G7,J,by show _<=(i+j)/2+1;omega,X,H2,u⟩,Ei,?_⟩;all_goals exact X2g
      .rw[b3d C]at u;rw[<-u]at P;obtain⟨Y,Z,hS3,hS4⟩:=P;have t:EV AA.d Ao (F+1) a m b l=if(a+b)/2<(a+b)/2+m-i/\(a+b)/2+m-i<b then EV AA.d Ao F ((a+b)/2) ((a+b)/2+m-i) b (if a<i/\i<(a+b)/2 then EV AA.d Ao F a i ((a+b)/2) (GD AA.d a m b i l)else GD AA.d a m b i l)else if a<i/\i<(a+b)/2 then EV AA.d Ao F a i ((a+b)/2) (GD AA.d a m b i l)else GD AA.d a m b i l:=by rw[EV,Jj O,Jj V,<-u]
       clear u;by_cases c1:i<m/\m<(a+b)/2+m-i
       .by_cases w:a<i/\i<(a+b)/2
        .by_cases v:(a+b)/2<(a+b)/2+m-i/\(a+b)/2+m-i<b
         .have sR:Sub (JF AA.d i m ((a+b)/2+m-i) l) l:=SY Dz Dz;have sQ:Sub (EV AA.d Ao F a i ((a+b)/2) (JF AA.d i m ((a+b)/2+m-i) l)) l:=(MW F a i _ _ Dz Dz F5).trans sR;rw[Ji v,Ji w,GD,Ji c1]at t;refine X0b _ ?_;(repeat' first|constructor|intro h)<;>refine Lm ?_
          all_goals(try simp only[Ir,Is,DU,z,A,sR.1,sQ.1,Ix]at*)
          all_goals(try first
           |exact A0
           |(intro _ _;left;rw[t];done))
         .have sR:Sub (JF AA.d i m ((a+b)/2+m-i) l) l:=SY Dz Dz;have sQ:Sub (EV AA.d Ao F a i ((a+b)/2) (JF AA.d i m ((a+b)/2+m-i) l)) l:=(MW F a i _ _ Dz Dz F5).trans sR;rw[Jj v,Ji w,GD,Ji c1]at t;refine X0b _ ?_;(repeat' first|constructor|intro h)<;>refine Lm ?_
          all_goals(try simp only[Ir,Is,DU,z,A,sR.1,sQ.1,Ix]at*)
          all_goals(try first
           |exact A0
           |(intro _ _;left;rw[t];done))
        .by_cases v:(a+b)/2<(a+b)/2+m-i/\(a+b)/2+m-i<b
         .have sR:Sub (JF AA.d i m ((a+b)/2+m-i) l) l:=SY Dz Dz;have sQ:Sub (JF AA.d i m ((a+b)/2+m-i) l) l:=sR;rw[Ji v,Jj w,GD,Ji c1]at t;refine X0b _ ?_;(repeat' first|constructor|intro h)<;>refine Lm ?_
          all_goals(try simp only[Ir,Is,DU,z,A,sR.1,Ix]at*)
          all_goals(try first
           |exact A0
           |(intro _ _;left;rw[t];done))
         .have sR:Sub (JF AA.d i m ((a+b)/2+m-i) l) l:=SY Dz Dz;have sQ:Sub (JF AA.d i m ((a+b)/2+m-i) l) l:=sR;rw[Jj v,Jj w,GD,Ji c1]at t;refine X0b _ ?_;(repeat' first|constructor|intro h)<;>refine Lm ?_
          all_goals(try simp only[Ir,Is,DU,z,A,sR.1,Ix]at*)
          all_goals(try first
           |exact A0
           |(intro _ _;left;rw[t];done))
       .by_cases w:a<i/\i<(a+b)/2
        .by_cases v:(a+b)/2<(a+b)/2+m-i/\(a+b)/2+m-i<b
         .have sR:Sub (l) l:=Sub.refl l;have sQ:Sub (EV AA.d Ao F a i ((a+b)/2) (l)) l:=(MW F a i _ _ Dz Dz F5).trans sR;rw[Ji v,Ji w,GD,Jj c1]at t;refine X0b _ ?_;(repeat' first|constructor|intro h)<;>refine Lm ?_
          all_goals(try simp only[Ir,Is,DU,z,A,sQ.1,Ix]at*)
          all_goals(try first
           |exact A0
           |(intro _ _;left;rw[t];done))
         .have sR:Sub (l) l:=Sub.refl l;have sQ:Sub (EV AA.d Ao F a i ((a+b)/2) (l)) l:=(MW F a i _ _ Dz Dz F5).trans sR;rw[Jj v,Ji w,GD,Jj c1]at t;refine X0b _ ?_;(repeat' first|constructor|intro h)<;>refine Lm ?_
          all_goals(try simp only[Ir,Is,DU,z,A,sQ.1,Ix]at*)
          all_goals(try first
           |exact A0
           |(intro _ _;left;rw[t];done))
        .by_cases v:(a+b)/2<(a+b)/2+m-i/\(a+b)/2+m-i<b
         .have sR:Sub (l) l:=Sub.refl l;have sQ:Sub (l) l:=sR;rw[Ji v,Jj w,GD,Jj c1]at t;refine X0b _ ?_;(repeat' first|constructor|intro h)<;>refine Lm ?_
          all_goals(try simp only[Ir,Is,DU,z,A,Ix]at*)
          all_goals(try first
           |exact A0
           |(intro _ _;left;rw[t];done))
         .have sR:Sub (l) l:=Sub.refl l;have sQ:Sub (l) l:=sR;rw[Jj v,Jj w,GD,Jj c1]at t;refine X0b _ ?_;(repeat' first|constructor|intro h)<;>refine Lm ?_
          all_goals(try simp only[Ir,Is,DU,z,A,Ix]at*)
          all_goals(try first
           |exact A0
           |(intro _ _;left;rw[t];done))
end Go.Proofs.YtlffhjfkaepimaaGreatDoor.V
