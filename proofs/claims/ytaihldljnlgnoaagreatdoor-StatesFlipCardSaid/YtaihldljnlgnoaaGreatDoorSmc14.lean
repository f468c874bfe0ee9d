/-
  Parts of the proof: A32. Conditions: none.
-/
import Derived.Test.YtaihldljnlgnoaaGreatDoorSmc10
set_option maxRecDepth 100000
set_option maxHeartbeats 40000000
namespace Go.Proofs.YtaihldljnlgnoaaGreatDoor.V
open Go
theorem DD: @HPow.hPow Int Nat Int (@instHPow Int Nat (@instPowNat Int Int.instNatPow)) (2:Int) (Int.toNat 1)=2:=rfl
theorem b31{p:Nat->Bool}{f i j:Nat}(h:¬i<j):EF p f i j=i:=by cases f<;>simp[EF,h]
theorem c0t{p:Nat->Bool}{f i j:Nat}(h:i<j)(a:p ((i+j)/2)=true):EF p (f+1) i j=EF p f ((i+j)/2+1) j:=by rw[EF,Jf h,Jf a]
theorem b9y{p:Nat->Bool}{f i j:Nat}(h:i<j)(a:¬p ((i+j)/2)=true):EF p (f+1) i j=EF p f i ((i+j)/2):=by rw[EF,Jf h,Jg a]
theorem f9g{b:Bool}(h:b=true):¬(!b)=true:=by simp[h]
theorem g1h{b:Bool}(h:¬b=true):(!b)=true:=Ea
def SW(F:Nat):HK:=λe own=>match e,own with
 | [.osl 0,.int .i64 a,.int .i64 m,.int .i64 b,.clo f []],[.row T 4 n g _]=>if T=CI/\f=125 then some ⟨AA.isL n g/\n<=100000/\0<=a/\a<m/\m<b/\b<=n/\b-a<=F/\(∀s∈AA.lst n g,AD .u8 s.c.q),.tup [],[.row CI 4 (AA.lst n g).length (AA.row (DI AA.d AP F a.toNat m.toNat b.toNat (AA.lst n g))) none],[]⟩else none
 |_,_=>none
def FSym(F:Nat):FamH:=⟨List Stk×Nat×Nat×Nat,λ(_,a,m,b)=>[.osl 0,.int .i64 a,.int .i64 m,.int .i64 b,.clo 125 []],λ(l,_)=>[.row CI 4 l.length (AA.row l) none],λ(l,a,m,b)=>l.length<=100000/\a<m/\m<b/\b<=l.length/\b-a<=F/\∀s∈l,AD .u8 s.c.q,λ_=>.tup [],λ(l,a,m,b)=>[.row CI 4 l.length (AA.row (DI AA.d AP F a m b l)) none],[]⟩
def ISym:List Stk×Nat×Nat×Nat->Nat->Option Inv
 |(l,a,m,b),3=>some {β:=Nat×Nat×Nat,ok:=λ(f,i,j)=>m<=i/\i<=j/\j<=b/\j-i<=f/\EF (λh=>AP (l.getD h AA.d) (l.getD a AA.d)) f i j=MO AA.d AP a m b l,st:=λ(_,i,j)=>⟨[⟨11,none,.int .i64 j⟩,⟨10,none,.int .i64 i⟩,⟨4,none,.clo 125 []⟩,⟨3,none,.int .i64 b⟩,⟨2,none,.int .i64 m⟩,⟨1,none,.int .i64 a⟩,⟨0,none,.osl 0⟩],[.row CI 4 l.length (AA.row l) none]⟩,μ:=λ(f,_)=>f}
 |(l,a,m,b),9=>some {β:=Nat×Nat×List Stk,ok:=λ(f,k,L)=>Sub L l/\k+f+1=MO AA.d AP a m b l/\MB AA.d f k L=MB AA.d (MO AA.d AP a m b l-1-a) a l,st:=λ(_,k,L)=>⟨[⟨13,none,.int .i64 k⟩,⟨10,none,.int .i64 ((MO AA.d AP a m b l:Nat):Int)⟩,⟨4,none,.clo 125 []⟩,⟨3,none,.int .i64 b⟩,⟨2,none,.int .i64 m⟩,⟨1,none,.int .i64 a⟩,⟨0,none,.osl 0⟩],[.row CI 4 l.length (AA.row L) none]⟩,μ:=λ(f,_)=>f}
 |(l,a,m,b),15=>some {β:=Nat×Nat×Nat,ok:=λ(f,i,j)=>a<=i/\i<=j/\j<=m/\j-i<=f/\EF (λh=> !AP (l.getD m AA.d) (l.getD h AA.d)) f i j=OG AA.d AP a m l,st:=λ(_,i,j)=>⟨[⟨15,none,.int .i64 j⟩,⟨14,none,.int .i64 i⟩,⟨4,none,.clo 125 []⟩,⟨3,none,.int .i64 b⟩,⟨2,none,.int .i64 m⟩,⟨1,none,.int .i64 a⟩,⟨0,none,.osl 0⟩],[.row CI 4 l.length (AA.row l) none]⟩,μ:=λ(f,_)=>f}
 |(l,a,m,b),21=>some {β:=Nat×Nat×List Stk,ok:=λ(f,k,L)=>Sub L l/\OG AA.d AP a m l+f=k/\k<=m/\MJ AA.d f k L=MJ AA.d (m-OG AA.d AP a m l) m l,st:=λ(_,k,L)=>⟨[⟨17,none,.int .i64 k⟩,⟨14,none,.int .i64 ((OG AA.d AP a m l:Nat):Int)⟩,⟨4,none,.clo 125 []⟩,⟨3,none,.int .i64 b⟩,⟨2,none,.int .i64 m⟩,⟨1,none,.int .i64 a⟩,⟨0,none,.osl 0⟩],[.row CI 4 l.length (AA.row L) none]⟩,μ:=λ(f,_)=>f}
 |(l,a,m,b),33=>some {β:=Nat×Nat×Nat,ok:=λ(f,i,j)=>a<=i/\i<=j/\j<=m/\(a+b)/2+m-b<=i/\j<=(a+b)/2/\j-i<=f/\EF (λc=> !AP (l.getD ((a+b)/2+m-1-c) AA.d) (l.getD c AA.d)) f i j=FC AA.d AP a m b l,st:=λ(_,i,j)=>⟨[⟨22,none,.int .i64 ((((a+b)/2+m-1:Nat)):Int)⟩,⟨21,none,.int .i64 j⟩,⟨20,none,.int .i64 i⟩,⟨19,none,.int .i64 ((((a+b)/2+m:Nat)):Int)⟩,⟨18,none,.int .i64 ((((a+b)/2:Nat)):Int)⟩,⟨4,none,.clo 125 []⟩,⟨3,none,.int .i64 b⟩,⟨2,none,.int .i64 m⟩,⟨1,none,.int .i64 a⟩,⟨0,none,.osl 0⟩],[.row CI 4 l.length (AA.row l) none]⟩,μ:=λ(f,_)=>f}
 |_,_=>none
theorem pSym1(F:Nat)(ih:HS 198 (SW F)):HS 198 (SW (F+1)):=by
 refine HX {l:=[(125,Wi)],h:=[(198,SW F),(234,hRot)]} ⟨by simpa using pMv2,E6,by simpa using⟨ih,pRot⟩⟩ (FSym (F+1)) ISym (SW (F+1)) ?_ ?_ ?_ Tryz.func198 E5 E5 E5 ?_
 .intro args own r h hp;unfold SW at h;split at h
  .rename_i a m b f T n g c;split at h
   .rename_i hT;obtain⟨rfl,rfl⟩:=hT;cases h;obtain⟨p1,p2,p3,p4,p5,p6,p7,p8⟩:=hp;have hl:=RT.lst_length AA n g;exact⟨(AA.lst n g,a.toNat,m.toNat,b.toNat),⟨Ec,Er,Er,Er,Ec,Ji⟩,rfl,WG p1,⟨E4,E4,E4,E4,E4,p8⟩,rfl,rfl,rfl⟩
   .cases h
  .cases h
 .exact Ci
 .exact Ca
 .rintro⟨l,a,m,b⟩ μ ⟨h0,h1,h2,h3,h4,h5⟩;have hq:∀x,x<l.length->AD .u8 (l.getD x AA.d).c.q:=λx hx=>h5 _ (by rw[Jd,Je hx,L4];exact Kd _);have e2:(2:Int)^Int.toNat 1=2:=rfl;have e2: @HPow.hPow Int Nat Int (@instHPow Int Nat (@instPowNat Int Int.instNatPow)) (2:Int) (Int.toNat 1)=2:=rfl;by_cases Q:m-a=1
  .have ji:=UB (p:=λh=>AP (l.getD h AA.d) (l.getD a AA.d)) (b-m) m b E4;have R:DI AA.d AP (F+1) a m b l=MB AA.d (MO AA.d AP a m b l-1-a) a l:=by rw[DI,Jf Q]
   refine X0a _ ?_;(repeat' first|constructor|intro h)<;>refine Lm ?_
   all_goals(try simp only[In,DD]at*)
   all_goals(try first
    |exact A7)
   refine⟨(b-m,m,b),⟨Jm _,by show m<=b;omega,Jm _,Jm _,rfl⟩,?_,?_⟩
   .exact X2b
   .rintro⟨f,i,j⟩ C;replace C:m<=i/\i<=j/\j<=b/\j-i<=f/\EF (λh=>AP (l.getD h AA.d) (l.getD a AA.d)) f i j=MO AA.d AP a m b l:=C;obtain⟨J,S,K,U,u⟩:=C;have G:(((i:Int)+j)/2).toNat=(i+j)/2:=E4;by_cases E:i<j
    .obtain⟨f,rfl⟩:∃H,f=H+1:=⟨f-1,E4⟩
     by_cases I:FY (l.getD ((i+j)/2) AA.d).c.x (l.getD ((i+j)/2) AA.d).c.y (l.getD ((i+j)/2) AA.d).c.q (l.getD a AA.d).c.x (l.getD a AA.d).c.y (l.getD a AA.d).c.q<0
     .refine X0b _ ?_;(repeat' first|constructor|intro h)<;>refine Lm ?_
      all_goals(try simp only[In,DD,G]at*)
      all_goals(try first
       |exact Ab)
      rw[c0t E (Pv.2 I)]at u;refine⟨(f,(i+j)/2+1,j),⟨by show m<=(i+j)/2+1;omega,G6,K,Gy,u⟩,Ek,?_⟩;all_goals exact X2f
     .refine X0b _ ?_;(repeat' first|constructor|intro h)<;>refine Lm ?_
      all_goals(try simp only[In,DD,G]at*)
      all_goals(try first
       |exact Ab)
      rw[b9y E (λM=>I (Pv.1 M))]at u;refine⟨(f,i,(i+j)/2),⟨J,G7,by show (i+j)/2<=b;omega,Gz,u⟩,Ek,?_⟩;all_goals exact X2f
    .rw[b31 E]at u;refine X0b _ ?_;(repeat' first|constructor|intro h)<;>refine Lm ?_
     all_goals(try simp only[In,DD]at*)
     all_goals(try first
      |exact A7)
     refine⟨(i-1-a,a,l),⟨Sub.refl l,by show a+(i-1-a)+1=_;omega,by show MB AA.d (i-1-a) a l=_;rw[u]⟩,?_,?_⟩
     .exact X2f
     .rintro⟨f,k,L⟩ N;replace N:Sub L l/\k+f+1=MO AA.d AP a m b l/\MB AA.d f k L=MB AA.d (MO AA.d AP a m b l-1-a) a l:=N;obtain⟨k1,k2,k3⟩:=N;have kl:=k1.1;have hub:MO AA.d AP a m b l<=b:=ji.2;have O:((k:Int)+1).toNat=k+1:=E4;by_cases V:f=0
      .subst V;have kE:L=DI AA.d AP (F+1) a m b l:=by rw[R,<-k3];rfl
       exact X2g
      .obtain⟨f,rfl⟩:∃H,f=H+1:=⟨f-1,E4⟩
       refine X0b _ ?_;(repeat' first|constructor|intro h)<;>refine Lm ?_
       all_goals(try simp only[In,O]at*)
       all_goals(try first
        |exact A7)
       have hs:=RH (d:=AA.d) (l:=L) (i:=k) (j:=k+1) E4 E4;refine⟨(f,k+1,DK AA.d L k (k+1)),⟨hs.trans k1,by show k+1+f+1=_;omega,k3⟩,Ek,?_⟩;all_goals exact X2f
  .by_cases W:b-m=1
   .have ji:=UB (p:=λh=> !AP (l.getD m AA.d) (l.getD h AA.d)) (m-a) a m E4;have R:DI AA.d AP (F+1) a m b l=MJ AA.d (m-OG AA.d AP a m l) m l:=by rw[DI,Jg Q,Jf W]
    refine X0a _ ?_;(repeat' first|constructor|intro h)<;>refine Lm ?_
    all_goals(try simp only[In,DD]at*)
    all_goals(try first
     |exact A7)
    refine⟨(m-a,a,m),⟨Jm _,by show a<=m;omega,Jm _,Jm _,rfl⟩,?_,?_⟩
    .exact X2b
    .rintro⟨f,i,j⟩ C;replace C:a<=i/\i<=j/\j<=m/\j-i<=f/\EF (λh=> !AP (l.getD m AA.d) (l.getD h AA.d)) f i j=OG AA.d AP a m l:=C;obtain⟨J,S,K,U,u⟩:=C;have G:(((i:Int)+j)/2).toNat=(i+j)/2:=E4;by_cases E:i<j
     .obtain⟨f,rfl⟩:∃H,f=H+1:=⟨f-1,E4⟩
      by_cases I:FY (l.getD m AA.d).c.x (l.getD m AA.d).c.y (l.getD m AA.d).c.q (l.getD ((i+j)/2) AA.d).c.x (l.getD ((i+j)/2) AA.d).c.y (l.getD ((i+j)/2) AA.d).c.q<0
      .refine X0b _ ?_;(repeat' first|constructor|intro h)<;>refine Lm ?_
       all_goals(try simp only[In,Ip,DD,G]at*)
       all_goals(try first
        |exact Ab)
       rw[b9y E (f9g (Pv.2 I))]at u;refine⟨(f,i,(i+j)/2),⟨J,G7,Hv,Gz,u⟩,Ek,?_⟩;all_goals exact X2f
      .refine X0b _ ?_;(repeat' first|constructor|intro h)<;>refine Lm ?_
       all_goals(try simp only[In,Ip,DD,G]at*)
       all_goals(try first
        |exact Ab)
       rw[c0t E (g1h (λM=>I (Pv.1 M)))]at u;refine⟨(f,(i+j)/2+1,j),⟨Hw,G6,K,Gy,u⟩,Ek,?_⟩;all_goals exact X2f
     .rw[b31 E]at u;refine X0b _ ?_;(repeat' first|constructor|intro h)<;>refine Lm ?_
      all_goals(try simp only[In,Ip,DD]at*)
      all_goals(try first
       |exact A7)
      refine⟨(m-i,m,l),⟨Sub.refl l,by show _+(m-i)=m;omega,Jm _,by show MJ AA.d (m-i) m l=_;rw[u]⟩,?_,?_⟩
      .exact X2f
      .rintro⟨f,k,L⟩ N;replace N:Sub L l/\OG AA.d AP a m l+f=k/\k<=m/\MJ AA.d f k L=MJ AA.d (m-OG AA.d AP a m l) m l:=N;obtain⟨k1,k2,k4,k3⟩:=N;have kl:=k1.1;have O:((k:Int)-1).toNat=k-1:=E4;by_cases V:f=0
       .subst V;have kE:L=DI AA.d AP (F+1) a m b l:=by rw[R,<-k3];rfl
        exact X2g
       .obtain⟨f,rfl⟩:∃H,f=H+1:=⟨f-1,E4⟩
        refine X0b _ ?_;(repeat' first|constructor|intro h)<;>refine Lm ?_
        all_goals(try simp only[In,O]at*)
        all_goals(try first
         |exact A7)
        have hs:=RH (d:=AA.d) (l:=L) (i:=k) (j:=k-1) E4 E4;refine⟨(f,k-1,DK AA.d L k (k-1)),⟨hs.trans k1,by show _+f=k-1;omega,by show k-1<=m;omega,k3⟩,Ek,?_⟩;all_goals refine X0b _ ?_;(repeat' first|constructor|intro h)<;>refine Lm ?_
        all_goals(try simp only[Jv,DD])
        all_goals first|exact Af|(show (k:Int)-1=((k-1:Nat):Int);omega)|skip
   .have hS:=d6j (d:=AA.d) (lt:=AP) (l:=l) h1 h2;have B:∀L:List Stk,L.length=l.length->AA.lst l.length (AA.row L)=L:=λL e=>by rw[<-e];exact RT.lst_row _ _
    have qd:∀L:List Stk,L.length=l.length->AA.isL l.length (AA.row L):=λL e=>by rw[<-e];exact AA.isL_row L
    by_cases hm:(a+b)/2<m
    .refine X0a _ ?_;(repeat' first|constructor|intro h)<;>refine Lm ?_
     all_goals(try simp only[In,DD]at*)
     all_goals(try first
      |exact A7)
     refine⟨((a+b)/2-((a+b)/2+m-b),(a+b)/2+m-b,(a+b)/2),⟨by show a<=(a+b)/2+m-b;omega,by show (a+b)/2+m-b<=(a+b)/2;omega,by show (a+b)/2<=m;omega,Jm _,Jm _,Jm _,by unfold FC;rw[if_pos hm]⟩,?_,?_⟩
     .exact X2f
     .rintro⟨f,i,j⟩ C;replace C:a<=i/\i<=j/\j<=m/\(a+b)/2+m-b<=i/\j<=(a+b)/2/\j-i<=f/\EF (λc=> !AP (l.getD ((a+b)/2+m-1-c) AA.d) (l.getD c AA.d)) f i j=FC AA.d AP a m b l:=C;obtain⟨J,S,K,X,Y,U,u⟩:=C;have G:(((i:Int)+j)/2).toNat=(i+j)/2:=E4;have P:((((a+b)/2+m-1:Nat):Int)-((i:Int)+j)/2).toNat=(a+b)/2+m-1-(i+j)/2:=E4;have z:((((a+b)/2+m:Nat):Int)-(i:Int)).toNat=(a+b)/2+m-i:=E4;by_cases E:i<j
      .obtain⟨f,rfl⟩:∃H,f=H+1:=⟨f-1,E4⟩
       by_cases I:FY (l.getD ((a+b)/2+m-1-(i+j)/2) AA.d).c.x (l.getD ((a+b)/2+m-1-(i+j)/2) AA.d).c.y (l.getD ((a+b)/2+m-1-(i+j)/2) AA.d).c.q (l.getD ((i+j)/2) AA.d).c.x (l.getD ((i+j)/2) AA.d).c.y (l.getD ((i+j)/2) AA.d).c.q<0
       .refine X0b _ ?_;(repeat' first|constructor|intro h)<;>refine Lm ?_
        all_goals(try simp only[In,Ip,DD,G,P]at*)
        all_goals(try first
         |exact Ab)
        rw[b9y E (f9g (Pv.2 I))]at u;refine⟨(f,i,(i+j)/2),⟨J,G7,Hv,X,by show (i+j)/2<=(a+b)/2;omega,Gz,u⟩,Ek,?_⟩;all_goals exact X2f
       .refine X0b _ ?_;(repeat' first|constructor|intro h)<;>refine Lm ?_
        all_goals(try simp only[In,Ip,DD,G,P]at*)
        all_goals(try first
         |exact Ab)
        rw[c0t E (g1h (λM=>I (Pv.1 M)))]at u;refine⟨(f,(i+j)/2+1,j),⟨Hw,G6,K,by show _<=(i+j)/2+1;omega,Y,Gy,u⟩,Ek,?_⟩;all_goals exact X2f
      .rw[b31 E]at u;rw[<-u]at hS;obtain⟨Z,Zx,hS3,hS4⟩:=hS;have t:DI AA.d AP (F+1) a m b l=if(a+b)/2<(a+b)/2+m-i/\(a+b)/2+m-i<b then DI AA.d AP F ((a+b)/2) ((a+b)/2+m-i) b (if a<i/\i<(a+b)/2 then DI AA.d AP F a i ((a+b)/2) (FG AA.d a m b i l)else FG AA.d a m b i l)else if a<i/\i<(a+b)/2 then DI AA.d AP F a i ((a+b)/2) (FG AA.d a m b i l)else FG AA.d a m b i l:=by rw[DI,Jg Q,Jg W,<-u]
       clear u;by_cases A:i<m/\m<(a+b)/2+m-i
       .by_cases w:a<i/\i<(a+b)/2
        .by_cases v:(a+b)/2<(a+b)/2+m-i/\(a+b)/2+m-i<b
         .have sR:Sub (HN AA.d i m ((a+b)/2+m-i) l) l:=Rj E4 E4;have sQ:Sub (DI AA.d AP F a i ((a+b)/2) (HN AA.d i m ((a+b)/2+m-i) l)) l:=(LX F a i _ _ E4 E4 F8).trans sR;rw[Jf v,Jf w,FG,Jf A]at t;refine X0b _ ?_;(repeat' first|constructor|intro h)<;>refine Lm ?_
          all_goals(try simp only[In,Ip,DD,z,B,sR.1,sQ.1,It]at*)
          all_goals(try first
           |exact A0
           |(intro _ _;left;rw[t];done))
         .have sR:Sub (HN AA.d i m ((a+b)/2+m-i) l) l:=Rj E4 E4;have sQ:Sub (DI AA.d AP F a i ((a+b)/2) (HN AA.d i m ((a+b)/2+m-i) l)) l:=(LX F a i _ _ E4 E4 F8).trans sR;rw[Jg v,Jf w,FG,Jf A]at t;refine X0b _ ?_;(repeat' first|constructor|intro h)<;>refine Lm ?_
          all_goals(try simp only[In,Ip,DD,z,B,sR.1,sQ.1,It]at*)
          all_goals(try first
           |exact A0
           |(intro _ _;left;rw[t];done))
        .by_cases v:(a+b)/2<(a+b)/2+m-i/\(a+b)/2+m-i<b
         .have sR:Sub (HN AA.d i m ((a+b)/2+m-i) l) l:=Rj E4 E4;have sQ:Sub (HN AA.d i m ((a+b)/2+m-i) l) l:=sR;rw[Jf v,Jg w,FG,Jf A]at t;refine X0b _ ?_;(repeat' first|constructor|intro h)<;>refine Lm ?_
          all_goals(try simp only[In,Ip,DD,z,B,sR.1,It]at*)
          all_goals(try first
           |exact A0
           |(intro _ _;left;rw[t];done))
         .have sR:Sub (HN AA.d i m ((a+b)/2+m-i) l) l:=Rj E4 E4;have sQ:Sub (HN AA.d i m ((a+b)/2+m-i) l) l:=sR;rw[Jg v,Jg w,FG,Jf A]at t;refine X0b _ ?_;(repeat' first|constructor|intro h)<;>refine Lm ?_
          all_goals(try simp only[In,Ip,DD,z,B,sR.1,It]at*)
          all_goals(try first
           |exact A0
           |(intro _ _;left;rw[t];done))
       .by_cases w:a<i/\i<(a+b)/2
        .by_cases v:(a+b)/2<(a+b)/2+m-i/\(a+b)/2+m-i<b
         .have sR:Sub (l) l:=Sub.refl l;have sQ:Sub (DI AA.d AP F a i ((a+b)/2) (l)) l:=(LX F a i _ _ E4 E4 F8).trans sR;rw[Jf v,Jf w,FG,Jg A]at t;refine X0b _ ?_;(repeat' first|constructor|intro h)<;>refine Lm ?_
          all_goals(try simp only[In,Ip,DD,z,B,sQ.1,It]at*)
          all_goals(try first
           |exact A0
           |(intro _ _;left;rw[t];done))
         .have sR:Sub (l) l:=Sub.refl l;have sQ:Sub (DI AA.d AP F a i ((a+b)/2) (l)) l:=(LX F a i _ _ E4 E4 F8).trans sR;rw[Jg v,Jf w,FG,Jg A]at t;refine X0b _ ?_;(repeat' first|constructor|intro h)<;>refine Lm ?_
          all_goals(try simp only[In,Ip,DD,z,B,sQ.1,It]at*)
          all_goals(try first
           |exact A0
           |(intro _ _;left;rw[t];done))
        .by_cases v:(a+b)/2<(a+b)/2+m-i/\(a+b)/2+m-i<b
         .have sR:Sub (l) l:=Sub.refl l;have sQ:Sub (l) l:=sR;rw[Jf v,Jg w,FG,Jg A]at t;refine X0b _ ?_;(repeat' first|constructor|intro h)<;>refine Lm ?_
          all_goals(try simp only[In,Ip,DD,z,B,It]at*)
          all_goals(try first
           |exact A0
           |(intro _ _;left;rw[t];done))
         .have sR:Sub (l) l:=Sub.refl l;have sQ:Sub (l) l:=sR;rw[Jg v,Jg w,FG,Jg A]at t;refine X0b _ ?_;(repeat' first|constructor|intro h)<;>refine Lm ?_
          all_goals(try simp only[In,Ip,DD,z,B,It]at*)
          all_goals(try first
           |exact A0
           |(intro _ _;left;rw[t];done))
    .refine X0a _ ?_;(repeat' first|constructor|intro h)<;>refine Lm ?_
     all_goals(try simp only[In,DD]at*)
     all_goals(try first
      |exact A7)
     refine⟨(m-a,a,m),⟨Jm _,by show a<=m;omega,Jm _,by show (a+b)/2+m-b<=a;omega,by show m<=(a+b)/2;omega,Jm _,by unfold FC;rw[if_neg hm]⟩,?_,?_⟩
     .exact X2f
     .rintro⟨f,i,j⟩ C;replace C:a<=i/\i<=j/\j<=m/\(a+b)/2+m-b<=i/\j<=(a+b)/2/\j-i<=f/\EF (λc=> !AP (l.getD ((a+b)/2+m-1-c) AA.d) (l.getD c AA.d)) f i j=FC AA.d AP a m b l:=C;obtain⟨J,S,K,X,Y,U,u⟩:=C;have G:(((i:Int)+j)/2).toNat=(i+j)/2:=E4;have P:((((a+b)/2+m-1:Nat):Int)-((i:Int)+j)/2).toNat=(a+b)/2+m-1-(i+j)/2:=E4;have z:((((a+b)/2+m:Nat):Int)-(i:Int)).toNat=(a+b)/2+m-i:=E4;by_cases E:i<j
      .obtain⟨f,rfl⟩:∃H,f=H+1:=⟨f-1,E4⟩
       by_cases I:FY (l.getD ((a+b)/2+m-1-(i+j)/2) AA.d).c.x (l.getD ((a+b)/2+m-1-(i+j)/2) AA.d).c.y (l.getD ((a+b)/2+m-1-(i+j)/2) AA.d).c.q (l.getD ((i+j)/2) AA.d).c.x (l.getD ((i+j)/2) AA.d).c.y (l.getD ((i+j)/2) AA.d).c.q<0
       .refine X0b _ ?_;(repeat' first|constructor|intro h)<;>refine Lm ?_
        all_goals(try simp only[In,Ip,DD,G,P]at*)
        all_goals(try first
         |exact Ab)
        rw[b9y E (f9g (Pv.2 I))]at u;refine⟨(f,i,(i+j)/2),⟨J,G7,Hv,X,by show (i+j)/2<=(a+b)/2;omega,Gz,u⟩,Ek,?_⟩;all_goals exact X2f
       .refine X0b _ ?_;(repeat' first|constructor|intro h)<;>refine Lm ?_
        all_goals(try simp only[In,Ip,DD,G,P]at*)
        all_goals(try first
         |exact Ab)
        rw[c0t E (g1h (λM=>I (Pv.1 M)))]at u;refine⟨(f,(i+j)/2+1,j),⟨Hw,G6,K,by show _<=(i+j)/2+1;omega,Y,Gy,u⟩,Ek,?_⟩;all_goals exact X2f
      .rw[b31 E]at u;rw[<-u]at hS;obtain⟨Z,Zx,hS3,hS4⟩:=hS;have t:DI AA.d AP (F+1) a m b l=if(a+b)/2<(a+b)/2+m-i/\(a+b)/2+m-i<b then DI AA.d AP F ((a+b)/2) ((a+b)/2+m-i) b (if a<i/\i<(a+b)/2 then DI AA.d AP F a i ((a+b)/2) (FG AA.d a m b i l)else FG AA.d a m b i l)else if a<i/\i<(a+b)/2 then DI AA.d AP F a i ((a+b)/2) (FG AA.d a m b i l)else FG AA.d a m b i l:=by rw[DI,Jg Q,Jg W,<-u]
       clear u;by_cases A:i<m/\m<(a+b)/2+m-i
       .by_cases w:a<i/\i<(a+b)/2
        .by_cases v:(a+b)/2<(a+b)/2+m-i/\(a+b)/2+m-i<b
         .have sR:Sub (HN AA.d i m ((a+b)/2+m-i) l) l:=Rj E4 E4;have sQ:Sub (DI AA.d AP F a i ((a+b)/2) (HN AA.d i m ((a+b)/2+m-i) l)) l:=(LX F a i _ _ E4 E4 F8).trans sR;rw[Jf v,Jf w,FG,Jf A]at t;refine X0b _ ?_;(repeat' first|constructor|intro h)<;>refine Lm ?_
          all_goals(try simp only[In,Ip,DD,z,B,sR.1,sQ.1,It]at*)
          all_goals(try first
           |exact A0
           |(intro _ _;left;rw[t];done))
         .have sR:Sub (HN AA.d i m ((a+b)/2+m-i) l) l:=Rj E4 E4;have sQ:Sub (DI AA.d AP F a i ((a+b)/2) (HN AA.d i m ((a+b)/2+m-i) l)) l:=(LX F a i _ _ E4 E4 F8).trans sR;rw[Jg v,Jf w,FG,Jf A]at t;refine X0b _ ?_;(repeat' first|constructor|intro h)<;>refine Lm ?_
          all_goals(try simp only[In,Ip,DD,z,B,sR.1,sQ.1,It]at*)
          all_goals(try first
           |exact A0
           |(intro _ _;left;rw[t];done))
        .by_cases v:(a+b)/2<(a+b)/2+m-i/\(a+b)/2+m-i<b
         .have sR:Sub (HN AA.d i m ((a+b)/2+m-i) l) l:=Rj E4 E4;have sQ:Sub (HN AA.d i m ((a+b)/2+m-i) l) l:=sR;rw[Jf v,Jg w,FG,Jf A]at t;refine X0b _ ?_;(repeat' first|constructor|intro h)<;>refine Lm ?_
          all_goals(try simp only[In,Ip,DD,z,B,sR.1,It]at*)
          all_goals(try first
           |exact A0
           |(intro _ _;left;rw[t];done))
         .have sR:Sub (HN AA.d i m ((a+b)/2+m-i) l) l:=Rj E4 E4;have sQ:Sub (HN AA.d i m ((a+b)/2+m-i) l) l:=sR;rw[Jg v,Jg w,FG,Jf A]at t;refine X0b _ ?_;(repeat' first|constructor|intro h)<;>refine Lm ?_
          all_goals(try simp only[In,Ip,DD,z,B,sR.1,It]at*)
          all_goals(try first
           |exact A0
           |(intro _ _;left;rw[t];done))
       .by_cases w:a<i/\i<(a+b)/2
        .by_cases v:(a+b)/2<(a+b)/2+m-i/\(a+b)/2+m-i<b
         .have sR:Sub (l) l:=Sub.refl l;have sQ:Sub (DI AA.d AP F a i ((a+b)/2) (l)) l:=(LX F a i _ _ E4 E4 F8).trans sR;rw[Jf v,Jf w,FG,Jg A]at t;refine X0b _ ?_;(repeat' first|constructor|intro h)<;>refine Lm ?_
          all_goals(try simp only[In,Ip,DD,z,B,sQ.1,It]at*)
          all_goals(try first
           |exact A0
           |(intro _ _;left;rw[t];done))
         .have sR:Sub (l) l:=Sub.refl l;have sQ:Sub (DI AA.d AP F a i ((a+b)/2) (l)) l:=(LX F a i _ _ E4 E4 F8).trans sR;rw[Jg v,Jf w,FG,Jg A]at t;refine X0b _ ?_;(repeat' first|constructor|intro h)<;>refine Lm ?_
          all_goals(try simp only[In,Ip,DD,z,B,sQ.1,It]at*)
          all_goals(try first
           |exact A0
           |(intro _ _;left;rw[t];done))
        .by_cases v:(a+b)/2<(a+b)/2+m-i/\(a+b)/2+m-i<b
         .have sR:Sub (l) l:=Sub.refl l;have sQ:Sub (l) l:=sR;rw[Jf v,Jg w,FG,Jg A]at t;refine X0b _ ?_;(repeat' first|constructor|intro h)<;>refine Lm ?_
          all_goals(try simp only[In,Ip,DD,z,B,It]at*)
          all_goals(try first
           |exact A0
           |(intro _ _;left;rw[t];done))
         .have sR:Sub (l) l:=Sub.refl l;have sQ:Sub (l) l:=sR;rw[Jg v,Jg w,FG,Jg A]at t;refine X0b _ ?_;(repeat' first|constructor|intro h)<;>refine Lm ?_
          all_goals(try simp only[In,Ip,DD,z,B,It]at*)
          all_goals(try first
           |exact A0
           |(intro _ _;left;rw[t];done))
end Go.Proofs.YtaihldljnlgnoaaGreatDoor.V
