/-
  Parts of the proof: A32. Conditions: none.
-/
import Derived.Test.YtaihldljnlgnoaaGreatDoorSkc11
set_option maxRecDepth 100000
set_option maxHeartbeats 40000000
namespace Go.Proofs.YtaihldljnlgnoaaGreatDoor.V
open Go
theorem DH: @HPow.hPow Int Nat Int (@instHPow Int Nat (@instPowNat Int Int.instNatPow)) (2:Int) (Int.toNat 1)=2:=rfl
theorem b32{p:Nat->Bool}{f i j:Nat}(h:¬i<j):HD p f i j=i:=by cases f<;>simp[HD,h]
theorem c0q{p:Nat->Bool}{f i j:Nat}(h:i<j)(a:p ((i+j)/2)=true):HD p (f+1) i j=HD p f ((i+j)/2+1) j:=by rw[HD,J7 h,J7 a]
theorem b9t{p:Nat->Bool}{f i j:Nat}(h:i<j)(a:¬p ((i+j)/2)=true):HD p (f+1) i j=HD p f i ((i+j)/2):=by rw[HD,J7 h,J8 a]
theorem f9m{b:Bool}(h:b=true):¬(!b)=true:=by simp[h]
theorem g1e{b:Bool}(h:¬b=true):(!b)=true:=E4
def SM(F:Nat):HK:=λe own=>match e,own with
 | [.osl 0,.int .i64 a,.int .i64 m,.int .i64 b,.clo f []],[.row T 4 n g _]=>if T=CG/\f=125 then some ⟨AA.isL n g/\n<=100000/\0<=a/\a<m/\m<b/\b<=n/\b-a<=F/\(∀s∈AA.lst n g,AD .u8 s.c.q),.tup [],[.row CG 4 (AA.lst n g).length (AA.row (EL AA.d AW F a.toNat m.toNat b.toNat (AA.lst n g))) none],[]⟩else none
 |_,_=>none
def FSym(F:Nat):FamH:=⟨List Stk×Nat×Nat×Nat,λ(_,a,m,b)=>[.osl 0,.int .i64 a,.int .i64 m,.int .i64 b,.clo 125 []],λ(l,_)=>[.row CG 4 l.length (AA.row l) none],λ(l,a,m,b)=>l.length<=100000/\a<m/\m<b/\b<=l.length/\b-a<=F/\∀s∈l,AD .u8 s.c.q,λ_=>.tup [],λ(l,a,m,b)=>[.row CG 4 l.length (AA.row (EL AA.d AW F a m b l)) none],[]⟩
def ISym:List Stk×Nat×Nat×Nat->Nat->Option Inv
 |(l,a,m,b),3=>some {β:=Nat×Nat×Nat,ok:=λ(f,i,j)=>m<=i/\i<=j/\j<=b/\j-i<=f/\HD (λh=>AW (l.getD h AA.d) (l.getD a AA.d)) f i j=Pf AA.d AW a m b l,st:=λ(_,i,j)=>⟨[⟨11,none,.int .i64 j⟩,⟨10,none,.int .i64 i⟩,⟨4,none,.clo 125 []⟩,⟨3,none,.int .i64 b⟩,⟨2,none,.int .i64 m⟩,⟨1,none,.int .i64 a⟩,⟨0,none,.osl 0⟩],[.row CG 4 l.length (AA.row l) none]⟩,μ:=λ(f,_)=>f}
 |(l,a,m,b),9=>some {β:=Nat×Nat×List Stk,ok:=λ(f,k,L)=>Sub L l/\k+f+1=Pf AA.d AW a m b l/\Pk AA.d f k L=Pk AA.d (Pf AA.d AW a m b l-1-a) a l,st:=λ(_,k,L)=>⟨[⟨13,none,.int .i64 k⟩,⟨10,none,.int .i64 ((Pf AA.d AW a m b l:Nat):Int)⟩,⟨4,none,.clo 125 []⟩,⟨3,none,.int .i64 b⟩,⟨2,none,.int .i64 m⟩,⟨1,none,.int .i64 a⟩,⟨0,none,.osl 0⟩],[.row CG 4 l.length (AA.row L) none]⟩,μ:=λ(f,_)=>f}
 |(l,a,m,b),15=>some {β:=Nat×Nat×Nat,ok:=λ(f,i,j)=>a<=i/\i<=j/\j<=m/\j-i<=f/\HD (λh=> !AW (l.getD m AA.d) (l.getD h AA.d)) f i j=RU AA.d AW a m l,st:=λ(_,i,j)=>⟨[⟨15,none,.int .i64 j⟩,⟨14,none,.int .i64 i⟩,⟨4,none,.clo 125 []⟩,⟨3,none,.int .i64 b⟩,⟨2,none,.int .i64 m⟩,⟨1,none,.int .i64 a⟩,⟨0,none,.osl 0⟩],[.row CG 4 l.length (AA.row l) none]⟩,μ:=λ(f,_)=>f}
 |(l,a,m,b),21=>some {β:=Nat×Nat×List Stk,ok:=λ(f,k,L)=>Sub L l/\RU AA.d AW a m l+f=k/\k<=m/\QM AA.d f k L=QM AA.d (m-RU AA.d AW a m l) m l,st:=λ(_,k,L)=>⟨[⟨17,none,.int .i64 k⟩,⟨14,none,.int .i64 ((RU AA.d AW a m l:Nat):Int)⟩,⟨4,none,.clo 125 []⟩,⟨3,none,.int .i64 b⟩,⟨2,none,.int .i64 m⟩,⟨1,none,.int .i64 a⟩,⟨0,none,.osl 0⟩],[.row CG 4 l.length (AA.row L) none]⟩,μ:=λ(f,_)=>f}
 |(l,a,m,b),33=>some {β:=Nat×Nat×Nat,ok:=λ(f,i,j)=>a<=i/\i<=j/\j<=m/\(a+b)/2+m-b<=i/\j<=(a+b)/2/\j-i<=f/\HD (λc=> !AW (l.getD ((a+b)/2+m-1-c) AA.d) (l.getD c AA.d)) f i j=HF AA.d AW a m b l,st:=λ(_,i,j)=>⟨[⟨22,none,.int .i64 ((((a+b)/2+m-1:Nat)):Int)⟩,⟨21,none,.int .i64 j⟩,⟨20,none,.int .i64 i⟩,⟨19,none,.int .i64 ((((a+b)/2+m:Nat)):Int)⟩,⟨18,none,.int .i64 ((((a+b)/2:Nat)):Int)⟩,⟨4,none,.clo 125 []⟩,⟨3,none,.int .i64 b⟩,⟨2,none,.int .i64 m⟩,⟨1,none,.int .i64 a⟩,⟨0,none,.osl 0⟩],[.row CG 4 l.length (AA.row l) none]⟩,μ:=λ(f,_)=>f}
 |_,_=>none
theorem pSym1(F:Nat)(ih:HS 198 (SM F)):HS 198 (SM (F+1)):=by
 refine FU {l:=[(125,Wo)],h:=[(198,SM F),(234,hRot)]} ⟨by simpa using pMv2,Dz,by simpa using⟨ih,pRot⟩⟩ (FSym (F+1)) ISym (SM (F+1)) ?_ ?_ ?_ Tryz.func198 Dy Dy Dy ?_
 .intro args own r h hp;unfold SM at h;split at h
  .rename_i a m b f T n g c;split at h
   .rename_i hT;obtain⟨rfl,rfl⟩:=hT;cases h;obtain⟨p1,p2,p3,p4,p5,p6,p7,p8⟩:=hp;have hl:=RT.lst_length AA n g;exact⟨(AA.lst n g,a.toNat,m.toNat,b.toNat),⟨E6,Ek,Ek,Ek,E6,Ja⟩,rfl,WK p1,⟨Dx,Dx,Dx,Dx,Dx,p8⟩,rfl,rfl,rfl⟩
   .cases h
  .cases h
 .exact Cd
 .exact C3
 .rintro⟨l,a,m,b⟩ μ ⟨h0,h1,h2,h3,h4,h5⟩;have hq:∀x,x<l.length->AD .u8 (l.getD x AA.d).c.q:=λx hx=>h5 _ (by rw[J5,J6 hx,Kx];exact Kb _);have e2:(2:Int)^Int.toNat 1=2:=rfl;have e2: @HPow.hPow Int Nat Int (@instHPow Int Nat (@instPowNat Int Int.instNatPow)) (2:Int) (Int.toNat 1)=2:=rfl;by_cases Q:m-a=1
  .have jr:=Tz (p:=λh=>AW (l.getD h AA.d) (l.getD a AA.d)) (b-m) m b Dx;have S:EL AA.d AW (F+1) a m b l=Pk AA.d (Pf AA.d AW a m b l-1-a) a l:=by rw[EL,J7 Q]
   refine X0a _ ?_;(repeat' first|constructor|intro h)<;>refine Lm ?_
   all_goals(try simp only[If,DH]at*)
   all_goals(try first
    |exact A3)
   refine⟨(b-m,m,b),⟨Jf _,by show m<=b;omega,Jf _,Jf _,rfl⟩,?_,?_⟩
   .exact X2c
   .rintro⟨f,i,j⟩ C;replace C:m<=i/\i<=j/\j<=b/\j-i<=f/\HD (λh=>AW (l.getD h AA.d) (l.getD a AA.d)) f i j=Pf AA.d AW a m b l:=C;obtain⟨J,U,K,V,u⟩:=C;have G:(((i:Int)+j)/2).toNat=(i+j)/2:=Dx;by_cases E:i<j
    .obtain⟨f,rfl⟩:∃H,f=H+1:=⟨f-1,Dx⟩
     by_cases I:FQ (l.getD ((i+j)/2) AA.d).c.x (l.getD ((i+j)/2) AA.d).c.y (l.getD ((i+j)/2) AA.d).c.q (l.getD a AA.d).c.x (l.getD a AA.d).c.y (l.getD a AA.d).c.q<0
     .refine X0b _ ?_;(repeat' first|constructor|intro h)<;>refine Lm ?_
      all_goals(try simp only[If,DH,G]at*)
      all_goals(try first
       |exact A9)
      rw[c0q E (Pm.2 I)]at u;refine⟨(f,(i+j)/2+1,j),⟨by show m<=(i+j)/2+1;omega,Fx,K,Gs,u⟩,Ee,?_⟩;all_goals exact X3a
     .refine X0b _ ?_;(repeat' first|constructor|intro h)<;>refine Lm ?_
      all_goals(try simp only[If,DH,G]at*)
      all_goals(try first
       |exact A9)
      rw[b9t E (λM=>I (Pm.1 M))]at u;refine⟨(f,i,(i+j)/2),⟨J,Fy,by show (i+j)/2<=b;omega,Gt,u⟩,Ee,?_⟩;all_goals exact X3a
    .rw[b32 E]at u;refine X0b _ ?_;(repeat' first|constructor|intro h)<;>refine Lm ?_
     all_goals(try simp only[If,DH]at*)
     all_goals(try first
      |exact A3)
     refine⟨(i-1-a,a,l),⟨Sub.refl l,by show a+(i-1-a)+1=_;omega,by show Pk AA.d (i-1-a) a l=_;rw[u]⟩,?_,?_⟩
     .exact X3a
     .rintro⟨f,k,L⟩ N;replace N:Sub L l/\k+f+1=Pf AA.d AW a m b l/\Pk AA.d f k L=Pk AA.d (Pf AA.d AW a m b l-1-a) a l:=N;obtain⟨k1,k2,k3⟩:=N;have kl:=k1.1;have hub:Pf AA.d AW a m b l<=b:=jr.2;have O:((k:Int)+1).toNat=k+1:=Dx;by_cases W:f=0
      .subst W;have kE:L=EL AA.d AW (F+1) a m b l:=by rw[S,<-k3];rfl
       exact X3b
      .obtain⟨f,rfl⟩:∃H,f=H+1:=⟨f-1,Dx⟩
       refine X0b _ ?_;(repeat' first|constructor|intro h)<;>refine Lm ?_
       all_goals(try simp only[If,O]at*)
       all_goals(try first
        |exact A3)
       have hs:=RA (d:=AA.d) (l:=L) (i:=k) (j:=k+1) Dx Dx;refine⟨(f,k+1,Eo AA.d L k (k+1)),⟨hs.trans k1,by show k+1+f+1=_;omega,k3⟩,Ee,?_⟩;all_goals exact X3a
  .by_cases X:b-m=1
   .have jr:=Tz (p:=λh=> !AW (l.getD m AA.d) (l.getD h AA.d)) (m-a) a m Dx;have S:EL AA.d AW (F+1) a m b l=QM AA.d (m-RU AA.d AW a m l) m l:=by rw[EL,J8 Q,J7 X]
    refine X0a _ ?_;(repeat' first|constructor|intro h)<;>refine Lm ?_
    all_goals(try simp only[If,DH]at*)
    all_goals(try first
     |exact A3)
    refine⟨(m-a,a,m),⟨Jf _,by show a<=m;omega,Jf _,Jf _,rfl⟩,?_,?_⟩
    .exact X2c
    .rintro⟨f,i,j⟩ C;replace C:a<=i/\i<=j/\j<=m/\j-i<=f/\HD (λh=> !AW (l.getD m AA.d) (l.getD h AA.d)) f i j=RU AA.d AW a m l:=C;obtain⟨J,U,K,V,u⟩:=C;have G:(((i:Int)+j)/2).toNat=(i+j)/2:=Dx;by_cases E:i<j
     .obtain⟨f,rfl⟩:∃H,f=H+1:=⟨f-1,Dx⟩
      by_cases I:FQ (l.getD m AA.d).c.x (l.getD m AA.d).c.y (l.getD m AA.d).c.q (l.getD ((i+j)/2) AA.d).c.x (l.getD ((i+j)/2) AA.d).c.y (l.getD ((i+j)/2) AA.d).c.q<0
      .refine X0b _ ?_;(repeat' first|constructor|intro h)<;>refine Lm ?_
       all_goals(try simp only[If,Ig,DH,G]at*)
       all_goals(try first
        |exact A9)
       rw[b9t E (f9m (Pm.2 I))]at u;refine⟨(f,i,(i+j)/2),⟨J,Fy,Hm,Gt,u⟩,Ee,?_⟩;all_goals exact X3a
      .refine X0b _ ?_;(repeat' first|constructor|intro h)<;>refine Lm ?_
       all_goals(try simp only[If,Ig,DH,G]at*)
       all_goals(try first
        |exact A9)
       rw[c0q E (g1e (λM=>I (Pm.1 M)))]at u;refine⟨(f,(i+j)/2+1,j),⟨Hn,Fx,K,Gs,u⟩,Ee,?_⟩;all_goals exact X3a
     .rw[b32 E]at u;refine X0b _ ?_;(repeat' first|constructor|intro h)<;>refine Lm ?_
      all_goals(try simp only[If,Ig,DH]at*)
      all_goals(try first
       |exact A3)
      refine⟨(m-i,m,l),⟨Sub.refl l,by show _+(m-i)=m;omega,Jf _,by show QM AA.d (m-i) m l=_;rw[u]⟩,?_,?_⟩
      .exact X3a
      .rintro⟨f,k,L⟩ N;replace N:Sub L l/\RU AA.d AW a m l+f=k/\k<=m/\QM AA.d f k L=QM AA.d (m-RU AA.d AW a m l) m l:=N;obtain⟨k1,k2,k4,k3⟩:=N;have kl:=k1.1;have O:((k:Int)-1).toNat=k-1:=Dx;by_cases W:f=0
       .subst W;have kE:L=EL AA.d AW (F+1) a m b l:=by rw[S,<-k3];rfl
        exact X3b
       .obtain⟨f,rfl⟩:∃H,f=H+1:=⟨f-1,Dx⟩
        refine X0b _ ?_;(repeat' first|constructor|intro h)<;>refine Lm ?_
        all_goals(try simp only[If,O]at*)
        all_goals(try first
         |exact A3)
        have hs:=RA (d:=AA.d) (l:=L) (i:=k) (j:=k-1) Dx Dx;refine⟨(f,k-1,Eo AA.d L k (k-1)),⟨hs.trans k1,by show _+f=k-1;omega,by show k-1<=m;omega,k3⟩,Ee,?_⟩;all_goals refine X0b _ ?_;(repeat' first|constructor|intro h)<;>refine Lm ?_
        all_goals(try simp only[Jn,DH])
        all_goals first|exact Ad|(show (k:Int)-1=((k-1:Nat):Int);omega)|skip
   .have R:=d6w (d:=AA.d) (lt:=AW) (l:=l) h1 h2;have B:∀L:List Stk,L.length=l.length->AA.lst l.length (AA.row L)=L:=λL e=>by rw[<-e];exact RT.lst_row _ _
    have qk:∀L:List Stk,L.length=l.length->AA.isL l.length (AA.row L):=λL e=>by rw[<-e];exact AA.isL_row L
    by_cases hm:(a+b)/2<m
    .refine X0a _ ?_;(repeat' first|constructor|intro h)<;>refine Lm ?_
     all_goals(try simp only[If,DH]at*)
     all_goals(try first
      |exact A3)
     refine⟨((a+b)/2-((a+b)/2+m-b),(a+b)/2+m-b,(a+b)/2),⟨by show a<=(a+b)/2+m-b;omega,by show (a+b)/2+m-b<=(a+b)/2;omega,by show (a+b)/2<=m;omega,Jf _,Jf _,Jf _,by unfold HF;rw[if_pos hm]⟩,?_,?_⟩
     .exact X3a
     .rintro⟨f,i,j⟩ C;replace C:a<=i/\i<=j/\j<=m/\(a+b)/2+m-b<=i/\j<=(a+b)/2/\j-i<=f/\HD (λc=> !AW (l.getD ((a+b)/2+m-1-c) AA.d) (l.getD c AA.d)) f i j=HF AA.d AW a m b l:=C;obtain⟨J,U,K,Y,Z,V,u⟩:=C;have G:(((i:Int)+j)/2).toNat=(i+j)/2:=Dx;have P:((((a+b)/2+m-1:Nat):Int)-((i:Int)+j)/2).toNat=(a+b)/2+m-1-(i+j)/2:=Dx;have z:((((a+b)/2+m:Nat):Int)-(i:Int)).toNat=(a+b)/2+m-i:=Dx;by_cases E:i<j
      .obtain⟨f,rfl⟩:∃H,f=H+1:=⟨f-1,Dx⟩
       by_cases I:FQ (l.getD ((a+b)/2+m-1-(i+j)/2) AA.d).c.x (l.getD ((a+b)/2+m-1-(i+j)/2) AA.d).c.y (l.getD ((a+b)/2+m-1-(i+j)/2) AA.d).c.q (l.getD ((i+j)/2) AA.d).c.x (l.getD ((i+j)/2) AA.d).c.y (l.getD ((i+j)/2) AA.d).c.q<0
       .refine X0b _ ?_;(repeat' first|constructor|intro h)<;>refine Lm ?_
        all_goals(try simp only[If,Ig,DH,G,P]at*)
        all_goals(try first
         |exact A9)
        rw[b9t E (f9m (Pm.2 I))]at u;refine⟨(f,i,(i+j)/2),⟨J,Fy,Hm,Y,by show (i+j)/2<=(a+b)/2;omega,Gt,u⟩,Ee,?_⟩;all_goals exact X3a
       .refine X0b _ ?_;(repeat' first|constructor|intro h)<;>refine Lm ?_
        all_goals(try simp only[If,Ig,DH,G,P]at*)
        all_goals(try first
         |exact A9)
        rw[c0q E (g1e (λM=>I (Pm.1 M)))]at u;refine⟨(f,(i+j)/2+1,j),⟨Hn,Fx,K,by show _<=(i+j)/2+1;omega,Z,Gs,u⟩,Ee,?_⟩;all_goals exact X3a
      .rw[b32 E]at u;rw[<-u]at R;obtain⟨hS1,Zz,hS3,hS4⟩:=R;have t:EL AA.d AW (F+1) a m b l=if(a+b)/2<(a+b)/2+m-i/\(a+b)/2+m-i<b then EL AA.d AW F ((a+b)/2) ((a+b)/2+m-i) b (if a<i/\i<(a+b)/2 then EL AA.d AW F a i ((a+b)/2) (FM AA.d a m b i l)else FM AA.d a m b i l)else if a<i/\i<(a+b)/2 then EL AA.d AW F a i ((a+b)/2) (FM AA.d a m b i l)else FM AA.d a m b i l:=by rw[EL,J8 Q,J8 X,<-u]
       clear u;by_cases A:i<m/\m<(a+b)/2+m-i
       .by_cases w:a<i/\i<(a+b)/2
        .by_cases v:(a+b)/2<(a+b)/2+m-i/\(a+b)/2+m-i<b
         .have sR:Sub (HX AA.d i m ((a+b)/2+m-i) l) l:=Rb Dx Dx;have sQ:Sub (EL AA.d AW F a i ((a+b)/2) (HX AA.d i m ((a+b)/2+m-i) l)) l:=(LV F a i _ _ Dx Dx F0).trans sR;rw[J7 v,J7 w,FM,J7 A]at t;refine X0b _ ?_;(repeat' first|constructor|intro h)<;>refine Lm ?_
          all_goals(try simp only[If,Ig,DH,z,B,sR.1,sQ.1,Ik]at*)
          all_goals(try first
           |exact A0
           |(intro _ _;left;rw[t];done))
         .have sR:Sub (HX AA.d i m ((a+b)/2+m-i) l) l:=Rb Dx Dx;have sQ:Sub (EL AA.d AW F a i ((a+b)/2) (HX AA.d i m ((a+b)/2+m-i) l)) l:=(LV F a i _ _ Dx Dx F0).trans sR;rw[J8 v,J7 w,FM,J7 A]at t;refine X0b _ ?_;(repeat' first|constructor|intro h)<;>refine Lm ?_
          all_goals(try simp only[If,Ig,DH,z,B,sR.1,sQ.1,Ik]at*)
          all_goals(try first
           |exact A0
           |(intro _ _;left;rw[t];done))
        .by_cases v:(a+b)/2<(a+b)/2+m-i/\(a+b)/2+m-i<b
         .have sR:Sub (HX AA.d i m ((a+b)/2+m-i) l) l:=Rb Dx Dx;have sQ:Sub (HX AA.d i m ((a+b)/2+m-i) l) l:=sR;rw[J7 v,J8 w,FM,J7 A]at t;refine X0b _ ?_;(repeat' first|constructor|intro h)<;>refine Lm ?_
          all_goals(try simp only[If,Ig,DH,z,B,sR.1,Ik]at*)
          all_goals(try first
           |exact A0
           |(intro _ _;left;rw[t];done))
         .have sR:Sub (HX AA.d i m ((a+b)/2+m-i) l) l:=Rb Dx Dx;have sQ:Sub (HX AA.d i m ((a+b)/2+m-i) l) l:=sR;rw[J8 v,J8 w,FM,J7 A]at t;refine X0b _ ?_;(repeat' first|constructor|intro h)<;>refine Lm ?_
          all_goals(try simp only[If,Ig,DH,z,B,sR.1,Ik]at*)
          all_goals(try first
           |exact A0
           |(intro _ _;left;rw[t];done))
       .by_cases w:a<i/\i<(a+b)/2
        .by_cases v:(a+b)/2<(a+b)/2+m-i/\(a+b)/2+m-i<b
         .have sR:Sub (l) l:=Sub.refl l;have sQ:Sub (EL AA.d AW F a i ((a+b)/2) (l)) l:=(LV F a i _ _ Dx Dx F0).trans sR;rw[J7 v,J7 w,FM,J8 A]at t;refine X0b _ ?_;(repeat' first|constructor|intro h)<;>refine Lm ?_
          all_goals(try simp only[If,Ig,DH,z,B,sQ.1,Ik]at*)
          all_goals(try first
           |exact A0
           |(intro _ _;left;rw[t];done))
         .have sR:Sub (l) l:=Sub.refl l;have sQ:Sub (EL AA.d AW F a i ((a+b)/2) (l)) l:=(LV F a i _ _ Dx Dx F0).trans sR;rw[J8 v,J7 w,FM,J8 A]at t;refine X0b _ ?_;(repeat' first|constructor|intro h)<;>refine Lm ?_
          all_goals(try simp only[If,Ig,DH,z,B,sQ.1,Ik]at*)
          all_goals(try first
           |exact A0
           |(intro _ _;left;rw[t];done))
        .by_cases v:(a+b)/2<(a+b)/2+m-i/\(a+b)/2+m-i<b
         .have sR:Sub (l) l:=Sub.refl l;have sQ:Sub (l) l:=sR;rw[J7 v,J8 w,FM,J8 A]at t;refine X0b _ ?_;(repeat' first|constructor|intro h)<;>refine Lm ?_
          all_goals(try simp only[If,Ig,DH,z,B,Ik]at*)
          all_goals(try first
           |exact A0
           |(intro _ _;left;rw[t];done))
         .have sR:Sub (l) l:=Sub.refl l;have sQ:Sub (l) l:=sR;rw[J8 v,J8 w,FM,J8 A]at t;refine X0b _ ?_;(repeat' first|constructor|intro h)<;>refine Lm ?_
          all_goals(try simp only[If,Ig,DH,z,B,Ik]at*)
          all_goals(try first
           |exact A0
           |(intro _ _;left;rw[t];done))
    .refine X0a _ ?_;(repeat' first|constructor|intro h)<;>refine Lm ?_
     all_goals(try simp only[If,DH]at*)
     all_goals(try first
      |exact A3)
     refine⟨(m-a,a,m),⟨Jf _,by show a<=m;omega,Jf _,by show (a+b)/2+m-b<=a;omega,by show m<=(a+b)/2;omega,Jf _,by unfold HF;rw[if_neg hm]⟩,?_,?_⟩
     .exact X3a
     .rintro⟨f,i,j⟩ C;replace C:a<=i/\i<=j/\j<=m/\(a+b)/2+m-b<=i/\j<=(a+b)/2/\j-i<=f/\HD (λc=> !AW (l.getD ((a+b)/2+m-1-c) AA.d) (l.getD c AA.d)) f i j=HF AA.d AW a m b l:=C;obtain⟨J,U,K,Y,Z,V,u⟩:=C;have G:(((i:Int)+j)/2).toNat=(i+j)/2:=Dx;have P:((((a+b)/2+m-1:Nat):Int)-((i:Int)+j)/2).toNat=(a+b)/2+m-1-(i+j)/2:=Dx;have z:((((a+b)/2+m:Nat):Int)-(i:Int)).toNat=(a+b)/2+m-i:=Dx;by_cases E:i<j
      .obtain⟨f,rfl⟩:∃H,f=H+1:=⟨f-1,Dx⟩
       by_cases I:FQ (l.getD ((a+b)/2+m-1-(i+j)/2) AA.d).c.x (l.getD ((a+b)/2+m-1-(i+j)/2) AA.d).c.y (l.getD ((a+b)/2+m-1-(i+j)/2) AA.d).c.q (l.getD ((i+j)/2) AA.d).c.x (l.getD ((i+j)/2) AA.d).c.y (l.getD ((i+j)/2) AA.d).c.q<0
       .refine X0b _ ?_;(repeat' first|constructor|intro h)<;>refine Lm ?_
        all_goals(try simp only[If,Ig,DH,G,P]at*)
        all_goals(try first
         |exact A9)
        rw[b9t E (f9m (Pm.2 I))]at u;refine⟨(f,i,(i+j)/2),⟨J,Fy,Hm,Y,by show (i+j)/2<=(a+b)/2;omega,Gt,u⟩,Ee,?_⟩;all_goals exact X3a
       .refine X0b _ ?_;(repeat' first|constructor|intro h)<;>refine Lm ?_
        all_goals(try simp only[If,Ig,DH,G,P]at*)
        all_goals(try first
         |exact A9)
        rw[c0q E (g1e (λM=>I (Pm.1 M)))]at u;refine⟨(f,(i+j)/2+1,j),⟨Hn,Fx,K,by show _<=(i+j)/2+1;omega,Z,Gs,u⟩,Ee,?_⟩;all_goals exact X3a
      .rw[b32 E]at u;rw[<-u]at R;obtain⟨hS1,Zz,hS3,hS4⟩:=R;have t:EL AA.d AW (F+1) a m b l=if(a+b)/2<(a+b)/2+m-i/\(a+b)/2+m-i<b then EL AA.d AW F ((a+b)/2) ((a+b)/2+m-i) b (if a<i/\i<(a+b)/2 then EL AA.d AW F a i ((a+b)/2) (FM AA.d a m b i l)else FM AA.d a m b i l)else if a<i/\i<(a+b)/2 then EL AA.d AW F a i ((a+b)/2) (FM AA.d a m b i l)else FM AA.d a m b i l:=by rw[EL,J8 Q,J8 X,<-u]
       clear u;by_cases A:i<m/\m<(a+b)/2+m-i
       .by_cases w:a<i/\i<(a+b)/2
        .by_cases v:(a+b)/2<(a+b)/2+m-i/\(a+b)/2+m-i<b
         .have sR:Sub (HX AA.d i m ((a+b)/2+m-i) l) l:=Rb Dx Dx;have sQ:Sub (EL AA.d AW F a i ((a+b)/2) (HX AA.d i m ((a+b)/2+m-i) l)) l:=(LV F a i _ _ Dx Dx F0).trans sR;rw[J7 v,J7 w,FM,J7 A]at t;refine X0b _ ?_;(repeat' first|constructor|intro h)<;>refine Lm ?_
          all_goals(try simp only[If,Ig,DH,z,B,sR.1,sQ.1,Ik]at*)
          all_goals(try first
           |exact A0
           |(intro _ _;left;rw[t];done))
         .have sR:Sub (HX AA.d i m ((a+b)/2+m-i) l) l:=Rb Dx Dx;have sQ:Sub (EL AA.d AW F a i ((a+b)/2) (HX AA.d i m ((a+b)/2+m-i) l)) l:=(LV F a i _ _ Dx Dx F0).trans sR;rw[J8 v,J7 w,FM,J7 A]at t;refine X0b _ ?_;(repeat' first|constructor|intro h)<;>refine Lm ?_
          all_goals(try simp only[If,Ig,DH,z,B,sR.1,sQ.1,Ik]at*)
          all_goals(try first
           |exact A0
           |(intro _ _;left;rw[t];done))
        .by_cases v:(a+b)/2<(a+b)/2+m-i/\(a+b)/2+m-i<b
         .have sR:Sub (HX AA.d i m ((a+b)/2+m-i) l) l:=Rb Dx Dx;have sQ:Sub (HX AA.d i m ((a+b)/2+m-i) l) l:=sR;rw[J7 v,J8 w,FM,J7 A]at t;refine X0b _ ?_;(repeat' first|constructor|intro h)<;>refine Lm ?_
          all_goals(try simp only[If,Ig,DH,z,B,sR.1,Ik]at*)
          all_goals(try first
           |exact A0
           |(intro _ _;left;rw[t];done))
         .have sR:Sub (HX AA.d i m ((a+b)/2+m-i) l) l:=Rb Dx Dx;have sQ:Sub (HX AA.d i m ((a+b)/2+m-i) l) l:=sR;rw[J8 v,J8 w,FM,J7 A]at t;refine X0b _ ?_;(repeat' first|constructor|intro h)<;>refine Lm ?_
          all_goals(try simp only[If,Ig,DH,z,B,sR.1,Ik]at*)
          all_goals(try first
           |exact A0
           |(intro _ _;left;rw[t];done))
       .by_cases w:a<i/\i<(a+b)/2
        .by_cases v:(a+b)/2<(a+b)/2+m-i/\(a+b)/2+m-i<b
         .have sR:Sub (l) l:=Sub.refl l;have sQ:Sub (EL AA.d AW F a i ((a+b)/2) (l)) l:=(LV F a i _ _ Dx Dx F0).trans sR;rw[J7 v,J7 w,FM,J8 A]at t;refine X0b _ ?_;(repeat' first|constructor|intro h)<;>refine Lm ?_
          all_goals(try simp only[If,Ig,DH,z,B,sQ.1,Ik]at*)
          all_goals(try first
           |exact A0
           |(intro _ _;left;rw[t];done))
         .have sR:Sub (l) l:=Sub.refl l;have sQ:Sub (EL AA.d AW F a i ((a+b)/2) (l)) l:=(LV F a i _ _ Dx Dx F0).trans sR;rw[J8 v,J7 w,FM,J8 A]at t;refine X0b _ ?_;(repeat' first|constructor|intro h)<;>refine Lm ?_
          all_goals(try simp only[If,Ig,DH,z,B,sQ.1,Ik]at*)
          all_goals(try first
           |exact A0
           |(intro _ _;left;rw[t];done))
        .by_cases v:(a+b)/2<(a+b)/2+m-i/\(a+b)/2+m-i<b
         .have sR:Sub (l) l:=Sub.refl l;have sQ:Sub (l) l:=sR;rw[J7 v,J8 w,FM,J8 A]at t;refine X0b _ ?_;(repeat' first|constructor|intro h)<;>refine Lm ?_
          all_goals(try simp only[If,Ig,DH,z,B,Ik]at*)
          all_goals(try first
           |exact A0
           |(intro _ _;left;rw[t];done))
         .have sR:Sub (l) l:=Sub.refl l;have sQ:Sub (l) l:=sR;rw[J8 v,J8 w,FM,J8 A]at t;refine X0b _ ?_;(repeat' first|constructor|intro h)<;>refine Lm ?_
          all_goals(try simp only[If,Ig,DH,z,B,Ik]at*)
          all_goals(try first
           |exact A0
           |(intro _ _;left;rw[t];done))
end Go.Proofs.YtaihldljnlgnoaaGreatDoor.V
