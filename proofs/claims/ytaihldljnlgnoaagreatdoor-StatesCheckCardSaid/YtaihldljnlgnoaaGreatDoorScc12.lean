/-
  Parts of the proof: A32. Conditions: none.
-/
import Derived.Test.YtaihldljnlgnoaaGreatDoorScc10
set_option maxRecDepth 100000
set_option maxHeartbeats 40000000
namespace Go.Proofs.YtaihldljnlgnoaaGreatDoor.V
open Go
theorem DI: @HPow.hPow Int Nat Int (@instHPow Int Nat (@instPowNat Int Int.instNatPow)) (2:Int) (Int.toNat 1)=2:=rfl
theorem b36{p:Nat->Bool}{f i j:Nat}(h:¬i<j):HJ p f i j=i:=by cases f<;>simp[HJ,h]
theorem c0w{p:Nat->Bool}{f i j:Nat}(h:i<j)(a:p ((i+j)/2)=true):HJ p (f+1) i j=HJ p f ((i+j)/2+1) j:=by rw[HJ,Iz h,Iz a]
theorem c05{p:Nat->Bool}{f i j:Nat}(h:i<j)(a:¬p ((i+j)/2)=true):HJ p (f+1) i j=HJ p f i ((i+j)/2):=by rw[HJ,Iz h,J3 a]
theorem f9s{b:Bool}(h:b=true):¬(!b)=true:=by simp[h]
theorem g1u{b:Bool}(h:¬b=true):(!b)=true:=E2
def Sc(F:Nat):HK:=λe own=>match e,own with
 | [.osl 0,.int .i64 a,.int .i64 m,.int .i64 b,.clo f []],[.row T 4 n g _]=>if T=CM/\f=125 then some ⟨AA.isL n g/\n<=100000/\0<=a/\a<m/\m<b/\b<=n/\b-a<=F/\(∀s∈AA.lst n g,AE .u8 s.c.q),.tup [],[.row CM 4 (AA.lst n g).length (AA.row (EM AA.d AZ F a.toNat m.toNat b.toNat (AA.lst n g))) none],[]⟩else none
 |_,_=>none
def FSym(F:Nat):FamH:=⟨List Stk×Nat×Nat×Nat,λ(_,a,m,b)=>[.osl 0,.int .i64 a,.int .i64 m,.int .i64 b,.clo 125 []],λ(l,_)=>[.row CM 4 l.length (AA.row l) none],λ(l,a,m,b)=>l.length<=100000/\a<m/\m<b/\b<=l.length/\b-a<=F/\∀s∈l,AE .u8 s.c.q,λ_=>.tup [],λ(l,a,m,b)=>[.row CM 4 l.length (AA.row (EM AA.d AZ F a m b l)) none],[]⟩
def ISym:List Stk×Nat×Nat×Nat->Nat->Option Inv
 |(l,a,m,b),3=>some {β:=Nat×Nat×Nat,ok:=λ(f,i,j)=>m<=i/\i<=j/\j<=b/\j-i<=f/\HJ (λh=>AZ (l.getD h AA.d) (l.getD a AA.d)) f i j=Pq AA.d AZ a m b l,st:=λ(_,i,j)=>⟨[⟨11,none,.int .i64 j⟩,⟨10,none,.int .i64 i⟩,⟨4,none,.clo 125 []⟩,⟨3,none,.int .i64 b⟩,⟨2,none,.int .i64 m⟩,⟨1,none,.int .i64 a⟩,⟨0,none,.osl 0⟩],[.row CM 4 l.length (AA.row l) none]⟩,μ:=λ(f,_)=>f}
 |(l,a,m,b),9=>some {β:=Nat×Nat×List Stk,ok:=λ(f,k,L)=>Sub L l/\k+f+1=Pq AA.d AZ a m b l/\Px AA.d f k L=Px AA.d (Pq AA.d AZ a m b l-1-a) a l,st:=λ(_,k,L)=>⟨[⟨13,none,.int .i64 k⟩,⟨10,none,.int .i64 ((Pq AA.d AZ a m b l:Nat):Int)⟩,⟨4,none,.clo 125 []⟩,⟨3,none,.int .i64 b⟩,⟨2,none,.int .i64 m⟩,⟨1,none,.int .i64 a⟩,⟨0,none,.osl 0⟩],[.row CM 4 l.length (AA.row L) none]⟩,μ:=λ(f,_)=>f}
 |(l,a,m,b),15=>some {β:=Nat×Nat×Nat,ok:=λ(f,i,j)=>a<=i/\i<=j/\j<=m/\j-i<=f/\HJ (λh=> !AZ (l.getD m AA.d) (l.getD h AA.d)) f i j=Rd AA.d AZ a m l,st:=λ(_,i,j)=>⟨[⟨15,none,.int .i64 j⟩,⟨14,none,.int .i64 i⟩,⟨4,none,.clo 125 []⟩,⟨3,none,.int .i64 b⟩,⟨2,none,.int .i64 m⟩,⟨1,none,.int .i64 a⟩,⟨0,none,.osl 0⟩],[.row CM 4 l.length (AA.row l) none]⟩,μ:=λ(f,_)=>f}
 |(l,a,m,b),21=>some {β:=Nat×Nat×List Stk,ok:=λ(f,k,L)=>Sub L l/\Rd AA.d AZ a m l+f=k/\k<=m/\QV AA.d f k L=QV AA.d (m-Rd AA.d AZ a m l) m l,st:=λ(_,k,L)=>⟨[⟨17,none,.int .i64 k⟩,⟨14,none,.int .i64 ((Rd AA.d AZ a m l:Nat):Int)⟩,⟨4,none,.clo 125 []⟩,⟨3,none,.int .i64 b⟩,⟨2,none,.int .i64 m⟩,⟨1,none,.int .i64 a⟩,⟨0,none,.osl 0⟩],[.row CM 4 l.length (AA.row L) none]⟩,μ:=λ(f,_)=>f}
 |(l,a,m,b),33=>some {β:=Nat×Nat×Nat,ok:=λ(f,i,j)=>a<=i/\i<=j/\j<=m/\(a+b)/2+m-b<=i/\j<=(a+b)/2/\j-i<=f/\HJ (λc=> !AZ (l.getD ((a+b)/2+m-1-c) AA.d) (l.getD c AA.d)) f i j=HN AA.d AZ a m b l,st:=λ(_,i,j)=>⟨[⟨22,none,.int .i64 ((((a+b)/2+m-1:Nat)):Int)⟩,⟨21,none,.int .i64 j⟩,⟨20,none,.int .i64 i⟩,⟨19,none,.int .i64 ((((a+b)/2+m:Nat)):Int)⟩,⟨18,none,.int .i64 ((((a+b)/2:Nat)):Int)⟩,⟨4,none,.clo 125 []⟩,⟨3,none,.int .i64 b⟩,⟨2,none,.int .i64 m⟩,⟨1,none,.int .i64 a⟩,⟨0,none,.osl 0⟩],[.row CM 4 l.length (AA.row l) none]⟩,μ:=λ(f,_)=>f}
 |_,_=>none
theorem pSym1(F:Nat)(ih:HS 198 (Sc F)):HS 198 (Sc (F+1)):=by
 refine HG {l:=[(125,XF)],h:=[(198,Sc F),(234,hRot)]} ⟨by simpa using pMv2,Dx,by simpa using⟨ih,pRot⟩⟩ (FSym (F+1)) ISym (Sc (F+1)) ?_ ?_ ?_ Tryz.func198 Dw Dw Dw ?_
 .intro args own r h hp;unfold Sc at h;split at h
  .rename_i a m b f T n g c;split at h
   .rename_i hT;obtain⟨rfl,rfl⟩:=hT;cases h;obtain⟨p1,p2,p3,p4,p5,p6,p7,p8⟩:=hp;have hl:=RT.lst_length AA n g;exact⟨(AA.lst n g,a.toNat,m.toNat,b.toNat),⟨E4,Ei,Ei,Ei,E4,J5⟩,rfl,WZ p1,⟨Dv,Dv,Dv,Dv,Dv,p8⟩,rfl,rfl,rfl⟩
   .cases h
  .cases h
 .exact Cf
 .exact C5
 .rintro⟨l,a,m,b⟩ μ ⟨h0,h1,h2,h3,h4,h5⟩;have hq:∀x,x<l.length->AE .u8 (l.getD x AA.d).c.q:=λx hx=>h5 _ (by rw[Ix,Iy hx,Kn];exact K2 _);have e2:(2:Int)^Int.toNat 1=2:=rfl;have e2: @HPow.hPow Int Nat Int (@instHPow Int Nat (@instPowNat Int Int.instNatPow)) (2:Int) (Int.toNat 1)=2:=rfl;by_cases Q:m-a=1
  .have jm:=UL (p:=λh=>AZ (l.getD h AA.d) (l.getD a AA.d)) (b-m) m b Dv;have R:EM AA.d AZ (F+1) a m b l=Px AA.d (Pq AA.d AZ a m b l-1-a) a l:=by rw[EM,Iz Q]
   refine X0 _ ?_;(repeat' first|constructor|intro h)<;>refine Lm ?_
   all_goals(try simp only[Ia,DI]at*)
   all_goals(try first
    |exact A5)
   refine⟨(b-m,m,b),⟨J9 _,by show m<=b;omega,J9 _,J9 _,rfl⟩,?_,?_⟩
   .exact X1h
   .rintro⟨f,i,j⟩ C;replace C:m<=i/\i<=j/\j<=b/\j-i<=f/\HJ (λh=>AZ (l.getD h AA.d) (l.getD a AA.d)) f i j=Pq AA.d AZ a m b l:=C;obtain⟨J,S,K,U,u⟩:=C;have G:(((i:Int)+j)/2).toNat=(i+j)/2:=Dv;by_cases E:i<j
    .obtain⟨f,rfl⟩:∃H,f=H+1:=⟨f-1,Dv⟩
     by_cases I:FZ (l.getD ((i+j)/2) AA.d).c.x (l.getD ((i+j)/2) AA.d).c.y (l.getD ((i+j)/2) AA.d).c.q (l.getD a AA.d).c.x (l.getD a AA.d).c.y (l.getD a AA.d).c.q<0
     .refine X0a _ ?_;(repeat' first|constructor|intro h)<;>refine Lm ?_
      all_goals(try simp only[Ia,DI,G]at*)
      all_goals(try first
       |exact A8)
      rw[c0w E (Pz.2 I)]at u;refine⟨(f,(i+j)/2+1,j),⟨by show m<=(i+j)/2+1;omega,Fu,K,Gm,u⟩,Ec,?_⟩;all_goals exact X2b
     .refine X0a _ ?_;(repeat' first|constructor|intro h)<;>refine Lm ?_
      all_goals(try simp only[Ia,DI,G]at*)
      all_goals(try first
       |exact A8)
      rw[c05 E (λM=>I (Pz.1 M))]at u;refine⟨(f,i,(i+j)/2),⟨J,Fv,by show (i+j)/2<=b;omega,Gn,u⟩,Ec,?_⟩;all_goals exact X2b
    .rw[b36 E]at u;refine X0a _ ?_;(repeat' first|constructor|intro h)<;>refine Lm ?_
     all_goals(try simp only[Ia,DI]at*)
     all_goals(try first
      |exact A5)
     refine⟨(i-1-a,a,l),⟨Sub.refl l,by show a+(i-1-a)+1=_;omega,by show Px AA.d (i-1-a) a l=_;rw[u]⟩,?_,?_⟩
     .exact X2b
     .rintro⟨f,k,L⟩ N;replace N:Sub L l/\k+f+1=Pq AA.d AZ a m b l/\Px AA.d f k L=Px AA.d (Pq AA.d AZ a m b l-1-a) a l:=N;obtain⟨k1,k2,k3⟩:=N;have kl:=k1.1;have hub:Pq AA.d AZ a m b l<=b:=jm.2;have O:((k:Int)+1).toNat=k+1:=Dv;by_cases V:f=0
      .subst V;have kE:L=EM AA.d AZ (F+1) a m b l:=by rw[R,<-k3];rfl
       exact X2c
      .obtain⟨f,rfl⟩:∃H,f=H+1:=⟨f-1,Dv⟩
       refine X0a _ ?_;(repeat' first|constructor|intro h)<;>refine Lm ?_
       all_goals(try simp only[Ia,O]at*)
       all_goals(try first
        |exact A5)
       have hs:=RI (d:=AA.d) (l:=L) (i:=k) (j:=k+1) Dv Dv;refine⟨(f,k+1,EZ AA.d L k (k+1)),⟨hs.trans k1,by show k+1+f+1=_;omega,k3⟩,Ec,?_⟩;all_goals exact X2b
  .by_cases W:b-m=1
   .have jm:=UL (p:=λh=> !AZ (l.getD m AA.d) (l.getD h AA.d)) (m-a) a m Dv;have R:EM AA.d AZ (F+1) a m b l=QV AA.d (m-Rd AA.d AZ a m l) m l:=by rw[EM,J3 Q,Iz W]
    refine X0 _ ?_;(repeat' first|constructor|intro h)<;>refine Lm ?_
    all_goals(try simp only[Ia,DI]at*)
    all_goals(try first
     |exact A5)
    refine⟨(m-a,a,m),⟨J9 _,by show a<=m;omega,J9 _,J9 _,rfl⟩,?_,?_⟩
    .exact X1h
    .rintro⟨f,i,j⟩ C;replace C:a<=i/\i<=j/\j<=m/\j-i<=f/\HJ (λh=> !AZ (l.getD m AA.d) (l.getD h AA.d)) f i j=Rd AA.d AZ a m l:=C;obtain⟨J,S,K,U,u⟩:=C;have G:(((i:Int)+j)/2).toNat=(i+j)/2:=Dv;by_cases E:i<j
     .obtain⟨f,rfl⟩:∃H,f=H+1:=⟨f-1,Dv⟩
      by_cases I:FZ (l.getD m AA.d).c.x (l.getD m AA.d).c.y (l.getD m AA.d).c.q (l.getD ((i+j)/2) AA.d).c.x (l.getD ((i+j)/2) AA.d).c.y (l.getD ((i+j)/2) AA.d).c.q<0
      .refine X0a _ ?_;(repeat' first|constructor|intro h)<;>refine Lm ?_
       all_goals(try simp only[Ia,Ib,DI,G]at*)
       all_goals(try first
        |exact A8)
       rw[c05 E (f9s (Pz.2 I))]at u;refine⟨(f,i,(i+j)/2),⟨J,Fv,Hi,Gn,u⟩,Ec,?_⟩;all_goals exact X2b
      .refine X0a _ ?_;(repeat' first|constructor|intro h)<;>refine Lm ?_
       all_goals(try simp only[Ia,Ib,DI,G]at*)
       all_goals(try first
        |exact A8)
       rw[c0w E (g1u (λM=>I (Pz.1 M)))]at u;refine⟨(f,(i+j)/2+1,j),⟨Hj,Fu,K,Gm,u⟩,Ec,?_⟩;all_goals exact X2b
     .rw[b36 E]at u;refine X0a _ ?_;(repeat' first|constructor|intro h)<;>refine Lm ?_
      all_goals(try simp only[Ia,Ib,DI]at*)
      all_goals(try first
       |exact A5)
      refine⟨(m-i,m,l),⟨Sub.refl l,by show _+(m-i)=m;omega,J9 _,by show QV AA.d (m-i) m l=_;rw[u]⟩,?_,?_⟩
      .exact X2b
      .rintro⟨f,k,L⟩ N;replace N:Sub L l/\Rd AA.d AZ a m l+f=k/\k<=m/\QV AA.d f k L=QV AA.d (m-Rd AA.d AZ a m l) m l:=N;obtain⟨k1,k2,k4,k3⟩:=N;have kl:=k1.1;have O:((k:Int)-1).toNat=k-1:=Dv;by_cases V:f=0
       .subst V;have kE:L=EM AA.d AZ (F+1) a m b l:=by rw[R,<-k3];rfl
        exact X2c
       .obtain⟨f,rfl⟩:∃H,f=H+1:=⟨f-1,Dv⟩
        refine X0a _ ?_;(repeat' first|constructor|intro h)<;>refine Lm ?_
        all_goals(try simp only[Ia,O]at*)
        all_goals(try first
         |exact A5)
        have hs:=RI (d:=AA.d) (l:=L) (i:=k) (j:=k-1) Dv Dv;refine⟨(f,k-1,EZ AA.d L k (k-1)),⟨hs.trans k1,by show _+f=k-1;omega,by show k-1<=m;omega,k3⟩,Ec,?_⟩;all_goals refine X0a _ ?_;(repeat' first|constructor|intro h)<;>refine Lm ?_
        all_goals(try simp only[Jk,DI])
        all_goals first|exact Ab|(show (k:Int)-1=((k-1:Nat):Int);omega)|skip
   .have hS:=d70 (d:=AA.d) (lt:=AZ) (l:=l) h1 h2;have B:∀L:List Stk,L.length=l.length->AA.lst l.length (AA.row L)=L:=λL e=>by rw[<-e];exact RT.lst_row _ _
    have qr:∀L:List Stk,L.length=l.length->AA.isL l.length (AA.row L):=λL e=>by rw[<-e];exact AA.isL_row L
    by_cases hm:(a+b)/2<m
    .refine X0 _ ?_;(repeat' first|constructor|intro h)<;>refine Lm ?_
     all_goals(try simp only[Ia,DI]at*)
     all_goals(try first
      |exact A5)
     refine⟨((a+b)/2-((a+b)/2+m-b),(a+b)/2+m-b,(a+b)/2),⟨by show a<=(a+b)/2+m-b;omega,by show (a+b)/2+m-b<=(a+b)/2;omega,by show (a+b)/2<=m;omega,J9 _,J9 _,J9 _,by unfold HN;rw[if_pos hm]⟩,?_,?_⟩
     .exact X2b
     .rintro⟨f,i,j⟩ C;replace C:a<=i/\i<=j/\j<=m/\(a+b)/2+m-b<=i/\j<=(a+b)/2/\j-i<=f/\HJ (λc=> !AZ (l.getD ((a+b)/2+m-1-c) AA.d) (l.getD c AA.d)) f i j=HN AA.d AZ a m b l:=C;obtain⟨J,S,K,X,Y,U,u⟩:=C;have G:(((i:Int)+j)/2).toNat=(i+j)/2:=Dv;have P:((((a+b)/2+m-1:Nat):Int)-((i:Int)+j)/2).toNat=(a+b)/2+m-1-(i+j)/2:=Dv;have z:((((a+b)/2+m:Nat):Int)-(i:Int)).toNat=(a+b)/2+m-i:=Dv;by_cases E:i<j
      .obtain⟨f,rfl⟩:∃H,f=H+1:=⟨f-1,Dv⟩
       by_cases I:FZ (l.getD ((a+b)/2+m-1-(i+j)/2) AA.d).c.x (l.getD ((a+b)/2+m-1-(i+j)/2) AA.d).c.y (l.getD ((a+b)/2+m-1-(i+j)/2) AA.d).c.q (l.getD ((i+j)/2) AA.d).c.x (l.getD ((i+j)/2) AA.d).c.y (l.getD ((i+j)/2) AA.d).c.q<0
       .refine X0a _ ?_;(repeat' first|constructor|intro h)<;>refine Lm ?_
        all_goals(try simp only[Ia,Ib,DI,G,P]at*)
        all_goals(try first
         |exact A8)
        rw[c05 E (f9s (Pz.2 I))]at u;refine⟨(f,i,(i+j)/2),⟨J,Fv,Hi,X,by show (i+j)/2<=(a+b)/2;omega,Gn,u⟩,Ec,?_⟩;all_goals exact X2b
       .refine X0a _ ?_;(repeat' first|constructor|intro h)<;>refine Lm ?_
        all_goals(try simp only[Ia,Ib,DI,G,P]at*)
        all_goals(try first
         |exact A8)
        rw[c0w E (g1u (λM=>I (Pz.1 M)))]at u;refine⟨(f,(i+j)/2+1,j),⟨Hj,Fu,K,by show _<=(i+j)/2+1;omega,Y,Gm,u⟩,Ec,?_⟩;all_goals exact X2b
      .rw[b36 E]at u;rw[<-u]at hS;obtain⟨Z,O8,hS3,hS4⟩:=hS;have t:EM AA.d AZ (F+1) a m b l=if(a+b)/2<(a+b)/2+m-i/\(a+b)/2+m-i<b then EM AA.d AZ F ((a+b)/2) ((a+b)/2+m-i) b (if a<i/\i<(a+b)/2 then EM AA.d AZ F a i ((a+b)/2) (FT AA.d a m b i l)else FT AA.d a m b i l)else if a<i/\i<(a+b)/2 then EM AA.d AZ F a i ((a+b)/2) (FT AA.d a m b i l)else FT AA.d a m b i l:=by rw[EM,J3 Q,J3 W,<-u]
       clear u;by_cases A:i<m/\m<(a+b)/2+m-i
       .by_cases w:a<i/\i<(a+b)/2
        .by_cases v:(a+b)/2<(a+b)/2+m-i/\(a+b)/2+m-i<b
         .have sR:Sub (IG AA.d i m ((a+b)/2+m-i) l) l:=Rm Dv Dv;have sQ:Sub (EM AA.d AZ F a i ((a+b)/2) (IG AA.d i m ((a+b)/2+m-i) l)) l:=(MC F a i _ _ Dv Dv Ey).trans sR;rw[Iz v,Iz w,FT,Iz A]at t;refine X0a _ ?_;(repeat' first|constructor|intro h)<;>refine Lm ?_
          all_goals(try simp only[Ia,Ib,DI,z,B,sR.1,sQ.1,If]at*)
          all_goals(try first
           |exact A0
           |(intro _ _;left;rw[t];done))
         .have sR:Sub (IG AA.d i m ((a+b)/2+m-i) l) l:=Rm Dv Dv;have sQ:Sub (EM AA.d AZ F a i ((a+b)/2) (IG AA.d i m ((a+b)/2+m-i) l)) l:=(MC F a i _ _ Dv Dv Ey).trans sR;rw[J3 v,Iz w,FT,Iz A]at t;refine X0a _ ?_;(repeat' first|constructor|intro h)<;>refine Lm ?_
          all_goals(try simp only[Ia,Ib,DI,z,B,sR.1,sQ.1,If]at*)
          all_goals(try first
           |exact A0
           |(intro _ _;left;rw[t];done))
        .by_cases v:(a+b)/2<(a+b)/2+m-i/\(a+b)/2+m-i<b
         .have sR:Sub (IG AA.d i m ((a+b)/2+m-i) l) l:=Rm Dv Dv;have sQ:Sub (IG AA.d i m ((a+b)/2+m-i) l) l:=sR;rw[Iz v,J3 w,FT,Iz A]at t;refine X0a _ ?_;(repeat' first|constructor|intro h)<;>refine Lm ?_
          all_goals(try simp only[Ia,Ib,DI,z,B,sR.1,If]at*)
          all_goals(try first
           |exact A0
           |(intro _ _;left;rw[t];done))
         .have sR:Sub (IG AA.d i m ((a+b)/2+m-i) l) l:=Rm Dv Dv;have sQ:Sub (IG AA.d i m ((a+b)/2+m-i) l) l:=sR;rw[J3 v,J3 w,FT,Iz A]at t;refine X0a _ ?_;(repeat' first|constructor|intro h)<;>refine Lm ?_
          all_goals(try simp only[Ia,Ib,DI,z,B,sR.1,If]at*)
          all_goals(try first
           |exact A0
           |(intro _ _;left;rw[t];done))
       .by_cases w:a<i/\i<(a+b)/2
        .by_cases v:(a+b)/2<(a+b)/2+m-i/\(a+b)/2+m-i<b
         .have sR:Sub (l) l:=Sub.refl l;have sQ:Sub (EM AA.d AZ F a i ((a+b)/2) (l)) l:=(MC F a i _ _ Dv Dv Ey).trans sR;rw[Iz v,Iz w,FT,J3 A]at t;refine X0a _ ?_;(repeat' first|constructor|intro h)<;>refine Lm ?_
          all_goals(try simp only[Ia,Ib,DI,z,B,sQ.1,If]at*)
          all_goals(try first
           |exact A0
           |(intro _ _;left;rw[t];done))
         .have sR:Sub (l) l:=Sub.refl l;have sQ:Sub (EM AA.d AZ F a i ((a+b)/2) (l)) l:=(MC F a i _ _ Dv Dv Ey).trans sR;rw[J3 v,Iz w,FT,J3 A]at t;refine X0a _ ?_;(repeat' first|constructor|intro h)<;>refine Lm ?_
          all_goals(try simp only[Ia,Ib,DI,z,B,sQ.1,If]at*)
          all_goals(try first
           |exact A0
           |(intro _ _;left;rw[t];done))
        .by_cases v:(a+b)/2<(a+b)/2+m-i/\(a+b)/2+m-i<b
         .have sR:Sub (l) l:=Sub.refl l;have sQ:Sub (l) l:=sR;rw[Iz v,J3 w,FT,J3 A]at t;refine X0a _ ?_;(repeat' first|constructor|intro h)<;>refine Lm ?_
          all_goals(try simp only[Ia,Ib,DI,z,B,If]at*)
          all_goals(try first
           |exact A0
           |(intro _ _;left;rw[t];done))
         .have sR:Sub (l) l:=Sub.refl l;have sQ:Sub (l) l:=sR;rw[J3 v,J3 w,FT,J3 A]at t;refine X0a _ ?_;(repeat' first|constructor|intro h)<;>refine Lm ?_
          all_goals(try simp only[Ia,Ib,DI,z,B,If]at*)
          all_goals(try first
           |exact A0
           |(intro _ _;left;rw[t];done))
    .refine X0 _ ?_;(repeat' first|constructor|intro h)<;>refine Lm ?_
     all_goals(try simp only[Ia,DI]at*)
     all_goals(try first
      |exact A5)
     refine⟨(m-a,a,m),⟨J9 _,by show a<=m;omega,J9 _,by show (a+b)/2+m-b<=a;omega,by show m<=(a+b)/2;omega,J9 _,by unfold HN;rw[if_neg hm]⟩,?_,?_⟩
     .exact X2b
     .rintro⟨f,i,j⟩ C;replace C:a<=i/\i<=j/\j<=m/\(a+b)/2+m-b<=i/\j<=(a+b)/2/\j-i<=f/\HJ (λc=> !AZ (l.getD ((a+b)/2+m-1-c) AA.d) (l.getD c AA.d)) f i j=HN AA.d AZ a m b l:=C;obtain⟨J,S,K,X,Y,U,u⟩:=C;have G:(((i:Int)+j)/2).toNat=(i+j)/2:=Dv;have P:((((a+b)/2+m-1:Nat):Int)-((i:Int)+j)/2).toNat=(a+b)/2+m-1-(i+j)/2:=Dv;have z:((((a+b)/2+m:Nat):Int)-(i:Int)).toNat=(a+b)/2+m-i:=Dv;by_cases E:i<j
      .obtain⟨f,rfl⟩:∃H,f=H+1:=⟨f-1,Dv⟩
       by_cases I:FZ (l.getD ((a+b)/2+m-1-(i+j)/2) AA.d).c.x (l.getD ((a+b)/2+m-1-(i+j)/2) AA.d).c.y (l.getD ((a+b)/2+m-1-(i+j)/2) AA.d).c.q (l.getD ((i+j)/2) AA.d).c.x (l.getD ((i+j)/2) AA.d).c.y (l.getD ((i+j)/2) AA.d).c.q<0
       .refine X0a _ ?_;(repeat' first|constructor|intro h)<;>refine Lm ?_
        all_goals(try simp only[Ia,Ib,DI,G,P]at*)
        all_goals(try first
         |exact A8)
        rw[c05 E (f9s (Pz.2 I))]at u;refine⟨(f,i,(i+j)/2),⟨J,Fv,Hi,X,by show (i+j)/2<=(a+b)/2;omega,Gn,u⟩,Ec,?_⟩;all_goals exact X2b
       .refine X0a _ ?_;(repeat' first|constructor|intro h)<;>refine Lm ?_
        all_goals(try simp only[Ia,Ib,DI,G,P]at*)
        all_goals(try first
         |exact A8)
        rw[c0w E (g1u (λM=>I (Pz.1 M)))]at u;refine⟨(f,(i+j)/2+1,j),⟨Hj,Fu,K,by show _<=(i+j)/2+1;omega,Y,Gm,u⟩,Ec,?_⟩;all_goals exact X2b
      .rw[b36 E]at u;rw[<-u]at hS;obtain⟨Z,O8,hS3,hS4⟩:=hS;have t:EM AA.d AZ (F+1) a m b l=if(a+b)/2<(a+b)/2+m-i/\(a+b)/2+m-i<b then EM AA.d AZ F ((a+b)/2) ((a+b)/2+m-i) b (if a<i/\i<(a+b)/2 then EM AA.d AZ F a i ((a+b)/2) (FT AA.d a m b i l)else FT AA.d a m b i l)else if a<i/\i<(a+b)/2 then EM AA.d AZ F a i ((a+b)/2) (FT AA.d a m b i l)else FT AA.d a m b i l:=by rw[EM,J3 Q,J3 W,<-u]
       clear u;by_cases A:i<m/\m<(a+b)/2+m-i
       .by_cases w:a<i/\i<(a+b)/2
        .by_cases v:(a+b)/2<(a+b)/2+m-i/\(a+b)/2+m-i<b
         .have sR:Sub (IG AA.d i m ((a+b)/2+m-i) l) l:=Rm Dv Dv;have sQ:Sub (EM AA.d AZ F a i ((a+b)/2) (IG AA.d i m ((a+b)/2+m-i) l)) l:=(MC F a i _ _ Dv Dv Ey).trans sR;rw[Iz v,Iz w,FT,Iz A]at t;refine X0a _ ?_;(repeat' first|constructor|intro h)<;>refine Lm ?_
          all_goals(try simp only[Ia,Ib,DI,z,B,sR.1,sQ.1,If]at*)
          all_goals(try first
           |exact A0
           |(intro _ _;left;rw[t];done))
         .have sR:Sub (IG AA.d i m ((a+b)/2+m-i) l) l:=Rm Dv Dv;have sQ:Sub (EM AA.d AZ F a i ((a+b)/2) (IG AA.d i m ((a+b)/2+m-i) l)) l:=(MC F a i _ _ Dv Dv Ey).trans sR;rw[J3 v,Iz w,FT,Iz A]at t;refine X0a _ ?_;(repeat' first|constructor|intro h)<;>refine Lm ?_
          all_goals(try simp only[Ia,Ib,DI,z,B,sR.1,sQ.1,If]at*)
          all_goals(try first
           |exact A0
           |(intro _ _;left;rw[t];done))
        .by_cases v:(a+b)/2<(a+b)/2+m-i/\(a+b)/2+m-i<b
         .have sR:Sub (IG AA.d i m ((a+b)/2+m-i) l) l:=Rm Dv Dv;have sQ:Sub (IG AA.d i m ((a+b)/2+m-i) l) l:=sR;rw[Iz v,J3 w,FT,Iz A]at t;refine X0a _ ?_;(repeat' first|constructor|intro h)<;>refine Lm ?_
          all_goals(try simp only[Ia,Ib,DI,z,B,sR.1,If]at*)
          all_goals(try first
           |exact A0
           |(intro _ _;left;rw[t];done))
         .have sR:Sub (IG AA.d i m ((a+b)/2+m-i) l) l:=Rm Dv Dv;have sQ:Sub (IG AA.d i m ((a+b)/2+m-i) l) l:=sR;rw[J3 v,J3 w,FT,Iz A]at t;refine X0a _ ?_;(repeat' first|constructor|intro h)<;>refine Lm ?_
          all_goals(try simp only[Ia,Ib,DI,z,B,sR.1,If]at*)
          all_goals(try first
           |exact A0
           |(intro _ _;left;rw[t];done))
       .by_cases w:a<i/\i<(a+b)/2
        .by_cases v:(a+b)/2<(a+b)/2+m-i/\(a+b)/2+m-i<b
         .have sR:Sub (l) l:=Sub.refl l;have sQ:Sub (EM AA.d AZ F a i ((a+b)/2) (l)) l:=(MC F a i _ _ Dv Dv Ey).trans sR;rw[Iz v,Iz w,FT,J3 A]at t;refine X0a _ ?_;(repeat' first|constructor|intro h)<;>refine Lm ?_
          all_goals(try simp only[Ia,Ib,DI,z,B,sQ.1,If]at*)
          all_goals(try first
           |exact A0
           |(intro _ _;left;rw[t];done))
         .have sR:Sub (l) l:=Sub.refl l;have sQ:Sub (EM AA.d AZ F a i ((a+b)/2) (l)) l:=(MC F a i _ _ Dv Dv Ey).trans sR;rw[J3 v,Iz w,FT,J3 A]at t;refine X0a _ ?_;(repeat' first|constructor|intro h)<;>refine Lm ?_
          all_goals(try simp only[Ia,Ib,DI,z,B,sQ.1,If]at*)
          all_goals(try first
           |exact A0
           |(intro _ _;left;rw[t];done))
        .by_cases v:(a+b)/2<(a+b)/2+m-i/\(a+b)/2+m-i<b
         .have sR:Sub (l) l:=Sub.refl l;have sQ:Sub (l) l:=sR;rw[Iz v,J3 w,FT,J3 A]at t;refine X0a _ ?_;(repeat' first|constructor|intro h)<;>refine Lm ?_
          all_goals(try simp only[Ia,Ib,DI,z,B,If]at*)
          all_goals(try first
           |exact A0
           |(intro _ _;left;rw[t];done))
         .have sR:Sub (l) l:=Sub.refl l;have sQ:Sub (l) l:=sR;rw[J3 v,J3 w,FT,J3 A]at t;refine X0a _ ?_;(repeat' first|constructor|intro h)<;>refine Lm ?_
          all_goals(try simp only[Ia,Ib,DI,z,B,If]at*)
          all_goals(try first
           |exact A0
           |(intro _ _;left;rw[t];done))
end Go.Proofs.YtaihldljnlgnoaaGreatDoor.V
