/-
  Parts of the proof: A32. Conditions: none.
-/
import Derived.Test.YtdblhepcmjecgaaGreatDoorGdc8
set_option maxRecDepth 100000
set_option maxHeartbeats 40000000
namespace Go.Proofs.YtdblhepcmjecgaaGreatDoor.V
open Go
theorem b4y: @HPow.hPow Int Nat Int (@instHPow Int Nat (@instPowNat Int Int.instNatPow)) (2:Int) (Int.toNat 1)=2:=rfl
theorem c13{p:Nat→Bool}{f i j:Nat}(h:¬i<j):c8m p f i j=i:=by cases f<;>simp[c8m,h]
theorem d16{p:Nat→Bool}{f i j:Nat}(h:i<j)(hp:p ((i+j)/2)=true):c8m p (f+1) i j=c8m p f ((i+j)/2+1) j:=by rw[c8m,Iw h,Iw hp]
theorem d07{p:Nat→Bool}{f i j:Nat}(h:i<j)(hp:¬p ((i+j)/2)=true):c8m p (f+1) i j=c8m p f i ((i+j)/2):=by rw[c8m,Iw h,Iy hp]
theorem j4g{b:Bool}(h:b=true):¬(!b)=true:=by simp[h]
theorem j4b{b:Bool}(h:¬b=true):(!b)=true:=E1
abbrev nSym:FuncId:=227
def g9k(F:Nat):HK:=fun args own=>match args,own with
 | [.osl 0,.int .i64 a,.int .i64 m,.int .i64 b,.clo f []],[.row T 4 n g _]=>if T=b7r∧f=c3d then some ⟨stR.isL n g∧n≤100000∧0≤a∧a<m∧m<b∧b≤n∧b-a≤F∧(∀s∈stR.lst n g,inK .u8 s.c.q),.tup [],[.row b7r 4 (stR.lst n g).length (stR.row (b6z stR.d b1s F a.toNat m.toNat b.toNat (stR.lst n g))) none],[]⟩else none
 |_,_=>none
def FSym(F:Nat):FamH:=⟨List Stk×Nat×Nat×Nat,fun(_,a,m,b)=>[.osl 0,.int .i64 a,.int .i64 m,.int .i64 b,.clo c3d []],fun(l,_)=>[.row b7r 4 l.length (stR.row l) none],fun(l,a,m,b)=>l.length≤100000∧a<m∧m<b∧b≤l.length∧b-a≤F∧∀s∈l,inK .u8 s.c.q,fun _=>.tup [],fun(l,a,m,b)=>[.row b7r 4 l.length (stR.row (b6z stR.d b1s F a m b l)) none],[]⟩
def ISym:List Stk×Nat×Nat×Nat→Nat→Option Inv
 |(l,a,m,b),3=>some {β:=Nat×Nat×Nat,ok:=fun(f,i,j)=>m≤i∧i≤j∧j≤b∧j-i≤f∧c8m (fun h=>b1s (l.getD h stR.d) (l.getD a stR.d)) f i j=up1 stR.d b1s a m b l,st:=fun(_,i,j)=>⟨[⟨11,none,.int .i64 j⟩,⟨10,none,.int .i64 i⟩,⟨4,none,.clo c3d []⟩,⟨3,none,.int .i64 b⟩,⟨2,none,.int .i64 m⟩,⟨1,none,.int .i64 a⟩,⟨0,none,.osl 0⟩],[.row b7r 4 l.length (stR.row l) none]⟩,μ:=fun(f,_)=>f}
 |(l,a,m,b),9=>some {β:=Nat×Nat×List Stk,ok:=fun(f,k,L)=>Sub L l∧k+f+1=up1 stR.d b1s a m b l∧shU stR.d f k L=shU stR.d (up1 stR.d b1s a m b l-1-a) a l,st:=fun(_,k,L)=>⟨[⟨13,none,.int .i64 k⟩,⟨10,none,.int .i64 ((up1 stR.d b1s a m b l:Nat):Int)⟩,⟨4,none,.clo c3d []⟩,⟨3,none,.int .i64 b⟩,⟨2,none,.int .i64 m⟩,⟨1,none,.int .i64 a⟩,⟨0,none,.osl 0⟩],[.row b7r 4 l.length (stR.row L) none]⟩,μ:=fun(f,_)=>f}
 |(l,a,m,b),15=>some {β:=Nat×Nat×Nat,ok:=fun(f,i,j)=>a≤i∧i≤j∧j≤m∧j-i≤f∧c8m (fun h=> !b1s (l.getD m stR.d) (l.getD h stR.d)) f i j=dn1 stR.d b1s a m l,st:=fun(_,i,j)=>⟨[⟨15,none,.int .i64 j⟩,⟨14,none,.int .i64 i⟩,⟨4,none,.clo c3d []⟩,⟨3,none,.int .i64 b⟩,⟨2,none,.int .i64 m⟩,⟨1,none,.int .i64 a⟩,⟨0,none,.osl 0⟩],[.row b7r 4 l.length (stR.row l) none]⟩,μ:=fun(f,_)=>f}
 |(l,a,m,b),21=>some {β:=Nat×Nat×List Stk,ok:=fun(f,k,L)=>Sub L l∧dn1 stR.d b1s a m l+f=k∧k≤m∧shD stR.d f k L=shD stR.d (m-dn1 stR.d b1s a m l) m l,st:=fun(_,k,L)=>⟨[⟨17,none,.int .i64 k⟩,⟨14,none,.int .i64 ((dn1 stR.d b1s a m l:Nat):Int)⟩,⟨4,none,.clo c3d []⟩,⟨3,none,.int .i64 b⟩,⟨2,none,.int .i64 m⟩,⟨1,none,.int .i64 a⟩,⟨0,none,.osl 0⟩],[.row b7r 4 l.length (stR.row L) none]⟩,μ:=fun(f,_)=>f}
 |(l,a,m,b),33=>some {β:=Nat×Nat×Nat,ok:=fun(f,i,j)=>a≤i∧i≤j∧j≤m∧(a+b)/2+m-b≤i∧j≤(a+b)/2∧j-i≤f∧c8m (fun c=> !b1s (l.getD ((a+b)/2+m-1-c) stR.d) (l.getD c stR.d)) f i j=c7y stR.d b1s a m b l,st:=fun(_,i,j)=>⟨[⟨22,none,.int .i64 ((((a+b)/2+m-1:Nat)):Int)⟩,⟨21,none,.int .i64 j⟩,⟨20,none,.int .i64 i⟩,⟨19,none,.int .i64 ((((a+b)/2+m:Nat)):Int)⟩,⟨18,none,.int .i64 ((((a+b)/2:Nat)):Int)⟩,⟨4,none,.clo c3d []⟩,⟨3,none,.int .i64 b⟩,⟨2,none,.int .i64 m⟩,⟨1,none,.int .i64 a⟩,⟨0,none,.osl 0⟩],[.row b7r 4 l.length (stR.row l) none]⟩,μ:=fun(f,_)=>f}
 |_,_=>none
theorem pSym1(F:Nat)(ih:HS nSym (g9k F)):HS nSym (g9k (F+1)):=by
 refine c90 {l:=[(c3d,kMv2)],h:=[(nSym,g9k F),(nRot,hRot)]} ⟨by simpa using pMv2,Dv,by simpa using⟨ih,pRot⟩⟩ (FSym (F+1)) ISym (g9k (F+1)) ?_ ?_ ?_ Go.Proofs.Tryz.func227 Du Du Du ?_
 ·intro args own r h hp
  unfold g9k at h
  split at h
  ·rename_i a m b f T n g c
   split at h
   ·rename_i hT
    obtain⟨rfl,rfl⟩:=hT
    cases h
    obtain⟨p1,p2,p3,p4,p5,p6,p7,p8⟩:=hp
    have hl:=RT.lst_length stR n g
    exact⟨(stR.lst n g,a.toNat,m.toNat,b.toNat),⟨E3,Ee,Ee,Ee,E3,Ix⟩,rfl,c3c p1,⟨Dt,Dt,Dt,Dt,Dt,p8⟩,rfl,rfl,rfl⟩
   ·cases h
  ·cases h
 ·exact Cc
 ·exact C2
 ·rintro⟨l,a,m,b⟩ μ ⟨h0,h1,h2,h3,h4,h5⟩
  have hq:∀x,x<l.length→inK .u8 (l.getD x stR.d).c.q:=fun x hx=>h5 _ (by rw[It,Iv hx,K6];exact Jn _)
  have e2:(2:Int)^Int.toNat 1=2:=rfl
  have e2: @HPow.hPow Int Nat Int (@instHPow Int Nat (@instPowNat Int Int.instNatPow)) (2:Int) (Int.toNat 1)=2:=rfl
  by_cases hA:m-a=1
  ·have hu:=c08 (p:=fun h=>b1s (l.getD h stR.d) (l.getD a stR.d)) (b-m) m b Dt
   have hR:b6z stR.d b1s (F+1) a m b l=shU stR.d (up1 stR.d b1s a m b l-1-a) a l:=by rw[b6z,Iw hA]
   refine wlk _ ?_;(repeat' first|constructor|refine Iu fun hu=> ?_|intro h);all_goals refine Lm ?_
   all_goals(try simp only[I8,b4y]at*)
   all_goals(try first
    |exact A3)
   refine⟨(b-m,m,b),⟨J2 _,by show m≤b;omega,J2 _,J2 _,rfl⟩,?_,?_⟩
   ·refine wln _ ?_;(repeat' first|constructor|refine Iu fun hu=> ?_|intro h);all_goals refine Lm ?_
    all_goals first|rfl|exact B7|skip
   ·rintro⟨f,i,j⟩ ⟨i1,i2,i3,i4,i5⟩
    try dsimp only at i1 i2 i3 i4 i5
    have e3:(((i:Int)+j)/2).toNat=(i+j)/2:=Dt
    by_cases dj:i<j
    ·obtain⟨f,rfl⟩:∃f',f=f'+1:=⟨f-1,Dt⟩
     by_cases hc:b0v (l.getD ((i+j)/2) stR.d).c.x (l.getD ((i+j)/2) stR.d).c.y (l.getD ((i+j)/2) stR.d).c.q (l.getD a stR.d).c.x (l.getD a stR.d).c.y (l.getD a stR.d).c.q<0
     ·refine wln _ ?_;(repeat' first|constructor|refine Iu fun hu=> ?_|intro h);all_goals refine Lm ?_
      all_goals(try simp only[I8,b4y,e3]at*)
      all_goals(try first
       |exact A6)
      rw[d16 dj (b49.2 hc)]at i5
      refine⟨(f,(i+j)/2+1,j),⟨by show m≤(i+j)/2+1;omega,Fs,i3,Gi,i5⟩,Ea,?_⟩
      all_goals refine wln _ ?_;(repeat' first|constructor|refine Iu fun hu=> ?_|intro h);all_goals refine Lm ?_
      all_goals(try simp only[J7,b4y])
      all_goals first|exact A8|skip
     ·refine wln _ ?_;(repeat' first|constructor|refine Iu fun hu=> ?_|intro h);all_goals refine Lm ?_
      all_goals(try simp only[I8,b4y,e3]at*)
      all_goals(try first
       |exact A6)
      rw[d07 dj (fun hh=>hc (b49.1 hh))]at i5
      refine⟨(f,i,(i+j)/2),⟨i1,Ft,by show (i+j)/2≤b;omega,Gj,i5⟩,Ea,?_⟩
      all_goals refine wln _ ?_;(repeat' first|constructor|refine Iu fun hu=> ?_|intro h);all_goals refine Lm ?_
      all_goals(try simp only[J7,b4y])
      all_goals first|exact A8|skip
    ·rw[c13 dj]at i5
     refine wln _ ?_;(repeat' first|constructor|refine Iu fun hu=> ?_|intro h);all_goals refine Lm ?_
     all_goals(try simp only[I8,b4y]at*)
     all_goals(try first
      |exact A3)
     refine⟨(i-1-a,a,l),⟨Sub.refl l,by show a+(i-1-a)+1=_;omega,by show shU stR.d (i-1-a) a l=_;rw[i5]⟩,?_,?_⟩
     ·refine wln _ ?_;(repeat' first|constructor|refine Iu fun hu=> ?_|intro h);all_goals refine Lm ?_
      all_goals(try simp only[J7,b4y])
      all_goals first|exact A8|skip
     ·rintro⟨f,k,L⟩ ⟨k1,k2,k3⟩
      try dsimp only at k1 k2 k3
      have kl:=k1.1
      have hub:up1 stR.d b1s a m b l≤b:=hu.2
      have e4:((k:Int)+1).toNat=k+1:=Dt
      by_cases hf:f=0
      ·subst hf
       have kE:L=b6z stR.d b1s (F+1) a m b l:=by rw[hR,←k3];rfl
       refine wln _ ?_;(repeat' first|constructor|refine Iu fun hu=> ?_|intro h);all_goals refine Lm ?_
       all_goals(try simp only[I8,e4]at*)
       all_goals(try first
        |exact A3
        |(intro _ _;left;rw[←kE]))
      ·obtain⟨f,rfl⟩:∃f',f=f'+1:=⟨f-1,Dt⟩
       refine wln _ ?_;(repeat' first|constructor|refine Iu fun hu=> ?_|intro h);all_goals refine Lm ?_
       all_goals(try simp only[I8,e4]at*)
       all_goals(try first
        |exact A3)
       have hs:=c02 (d:=stR.d) (l:=L) (i:=k) (j:=k+1) Dt Dt
       refine⟨(f,k+1,swp stR.d L k (k+1)),⟨hs.trans k1,by show k+1+f+1=_;omega,k3⟩,Ea,?_⟩
       all_goals refine wln _ ?_;(repeat' first|constructor|refine Iu fun hu=> ?_|intro h);all_goals refine Lm ?_
       all_goals(try simp only[J7,b4y])
       all_goals first|exact A8|skip
  ·by_cases hB:b-m=1
   ·have hu:=c08 (p:=fun h=> !b1s (l.getD m stR.d) (l.getD h stR.d)) (m-a) a m Dt
    have hR:b6z stR.d b1s (F+1) a m b l=shD stR.d (m-dn1 stR.d b1s a m l) m l:=by rw[b6z,Iy hA,Iw hB]
    refine wlk _ ?_;(repeat' first|constructor|refine Iu fun hu=> ?_|intro h);all_goals refine Lm ?_
    all_goals(try simp only[I8,b4y]at*)
    all_goals(try first
     |exact A3)
    refine⟨(m-a,a,m),⟨J2 _,by show a≤m;omega,J2 _,J2 _,rfl⟩,?_,?_⟩
    ·refine wln _ ?_;(repeat' first|constructor|refine Iu fun hu=> ?_|intro h);all_goals refine Lm ?_
     all_goals first|rfl|exact B7|skip
    ·rintro⟨f,i,j⟩ ⟨i1,i2,i3,i4,i5⟩
     try dsimp only at i1 i2 i3 i4 i5
     have e3:(((i:Int)+j)/2).toNat=(i+j)/2:=Dt
     by_cases dj:i<j
     ·obtain⟨f,rfl⟩:∃f',f=f'+1:=⟨f-1,Dt⟩
      by_cases hc:b0v (l.getD m stR.d).c.x (l.getD m stR.d).c.y (l.getD m stR.d).c.q (l.getD ((i+j)/2) stR.d).c.x (l.getD ((i+j)/2) stR.d).c.y (l.getD ((i+j)/2) stR.d).c.q<0
      ·refine wln _ ?_;(repeat' first|constructor|refine Iu fun hu=> ?_|intro h);all_goals refine Lm ?_
       all_goals(try simp only[I8,I9,b4y,e3]at*)
       all_goals(try first
        |exact A6)
       rw[d07 dj (j4g (b49.2 hc))]at i5
       refine⟨(f,i,(i+j)/2),⟨i1,Ft,He,Gj,i5⟩,Ea,?_⟩
       all_goals refine wln _ ?_;(repeat' first|constructor|refine Iu fun hu=> ?_|intro h);all_goals refine Lm ?_
       all_goals(try simp only[J7,b4y])
       all_goals first|exact A8|skip
      ·refine wln _ ?_;(repeat' first|constructor|refine Iu fun hu=> ?_|intro h);all_goals refine Lm ?_
       all_goals(try simp only[I8,I9,b4y,e3]at*)
       all_goals(try first
        |exact A6)
       rw[d16 dj (j4b (fun hh=>hc (b49.1 hh)))]at i5
       refine⟨(f,(i+j)/2+1,j),⟨Hf,Fs,i3,Gi,i5⟩,Ea,?_⟩
       all_goals refine wln _ ?_;(repeat' first|constructor|refine Iu fun hu=> ?_|intro h);all_goals refine Lm ?_
       all_goals(try simp only[J7,b4y])
       all_goals first|exact A8|skip
     ·rw[c13 dj]at i5
      refine wln _ ?_;(repeat' first|constructor|refine Iu fun hu=> ?_|intro h);all_goals refine Lm ?_
      all_goals(try simp only[I8,I9,b4y]at*)
      all_goals(try first
       |exact A3)
      refine⟨(m-i,m,l),⟨Sub.refl l,by show _+(m-i)=m;omega,J2 _,by show shD stR.d (m-i) m l=_;rw[i5]⟩,?_,?_⟩
      ·refine wln _ ?_;(repeat' first|constructor|refine Iu fun hu=> ?_|intro h);all_goals refine Lm ?_
       all_goals(try simp only[J7,b4y])
       all_goals first|exact A8|skip
      ·rintro⟨f,k,L⟩ ⟨k1,k2,k4,k3⟩
       try dsimp only at k1 k2 k4 k3
       have kl:=k1.1
       have e4:((k:Int)-1).toNat=k-1:=Dt
       by_cases hf:f=0
       ·subst hf
        have kE:L=b6z stR.d b1s (F+1) a m b l:=by rw[hR,←k3];rfl
        refine wln _ ?_;(repeat' first|constructor|refine Iu fun hu=> ?_|intro h);all_goals refine Lm ?_
        all_goals(try simp only[I8,e4]at*)
        all_goals(try first
         |exact A3
         |(intro _ _;left;rw[←kE]))
       ·obtain⟨f,rfl⟩:∃f',f=f'+1:=⟨f-1,Dt⟩
        refine wln _ ?_;(repeat' first|constructor|refine Iu fun hu=> ?_|intro h);all_goals refine Lm ?_
        all_goals(try simp only[I8,e4]at*)
        all_goals(try first
         |exact A3)
        have hs:=c02 (d:=stR.d) (l:=L) (i:=k) (j:=k-1) Dt Dt
        refine⟨(f,k-1,swp stR.d L k (k-1)),⟨hs.trans k1,by show _+f=k-1;omega,by show k-1≤m;omega,k3⟩,Ea,?_⟩
        all_goals refine wln _ ?_;(repeat' first|constructor|refine Iu fun hu=> ?_|intro h);all_goals refine Lm ?_
        all_goals(try simp only[J7,b4y])
        all_goals first|exact A8|(show (k:Int)-1=((k-1:Nat):Int);omega)|skip
   ·have hS:=g05 (d:=stR.d) (lt:=b1s) (l:=l) h1 h2
    have bz:∀L:List Stk,L.length=l.length→stR.lst l.length (stR.row L)=L:=fun L e=>by rw[←e];exact RT.lst_row _ _
    have nv:∀L:List Stk,L.length=l.length→stR.isL l.length (stR.row L):=fun L e=>by rw[←e];exact stR.isL_row L
    by_cases hm:(a+b)/2<m
    ·refine wlk _ ?_;(repeat' first|constructor|refine Iu fun hu=> ?_|intro h);all_goals refine Lm ?_
     all_goals(try simp only[I8,b4y]at*)
     all_goals(try first
      |exact A3)
     refine⟨((a+b)/2-((a+b)/2+m-b),(a+b)/2+m-b,(a+b)/2),⟨by show a≤(a+b)/2+m-b;omega,by show (a+b)/2+m-b≤(a+b)/2;omega,by show (a+b)/2≤m;omega,J2 _,J2 _,J2 _,by unfold c7y;rw[if_pos hm]⟩,?_,?_⟩
     ·refine wln _ ?_;(repeat' first|constructor|refine Iu fun hu=> ?_|intro h);all_goals refine Lm ?_
      all_goals(try simp only[J7,b4y])
      all_goals first|exact A8|skip
     ·rintro⟨f,i,j⟩ ⟨i1,i2,i3,i6,i7,i4,i5⟩
      try dsimp only at i1 i2 i3 i6 i7 i4 i5
      have e3:(((i:Int)+j)/2).toNat=(i+j)/2:=Dt
      have e5:((((a+b)/2+m-1:Nat):Int)-((i:Int)+j)/2).toNat=(a+b)/2+m-1-(i+j)/2:=Dt
      have e6:((((a+b)/2+m:Nat):Int)-(i:Int)).toNat=(a+b)/2+m-i:=Dt
      by_cases dj:i<j
      ·obtain⟨f,rfl⟩:∃f',f=f'+1:=⟨f-1,Dt⟩
       by_cases hc:b0v (l.getD ((a+b)/2+m-1-(i+j)/2) stR.d).c.x (l.getD ((a+b)/2+m-1-(i+j)/2) stR.d).c.y (l.getD ((a+b)/2+m-1-(i+j)/2) stR.d).c.q (l.getD ((i+j)/2) stR.d).c.x (l.getD ((i+j)/2) stR.d).c.y (l.getD ((i+j)/2) stR.d).c.q<0
       ·refine wln _ ?_;(repeat' first|constructor|refine Iu fun hu=> ?_|intro h);all_goals refine Lm ?_
        all_goals(try simp only[I8,I9,b4y,e3,e5]at*)
        all_goals(try first
         |exact A6)
        rw[d07 dj (j4g (b49.2 hc))]at i5
        refine⟨(f,i,(i+j)/2),⟨i1,Ft,He,i6,by show (i+j)/2≤(a+b)/2;omega,Gj,i5⟩,Ea,?_⟩
        all_goals refine wln _ ?_;(repeat' first|constructor|refine Iu fun hu=> ?_|intro h);all_goals refine Lm ?_
        all_goals(try simp only[J7,b4y])
        all_goals first|exact A8|skip
       ·refine wln _ ?_;(repeat' first|constructor|refine Iu fun hu=> ?_|intro h);all_goals refine Lm ?_
        all_goals(try simp only[I8,I9,b4y,e3,e5]at*)
        all_goals(try first
         |exact A6)
        rw[d16 dj (j4b (fun hh=>hc (b49.1 hh)))]at i5
        refine⟨(f,(i+j)/2+1,j),⟨Hf,Fs,i3,by show _≤(i+j)/2+1;omega,i7,Gi,i5⟩,Ea,?_⟩
        all_goals refine wln _ ?_;(repeat' first|constructor|refine Iu fun hu=> ?_|intro h);all_goals refine Lm ?_
        all_goals(try simp only[J7,b4y])
        all_goals first|exact A8|skip
      ·rw[c13 dj]at i5
       rw[←i5]at hS
       obtain⟨hS1,hS2,hS3,hS4⟩:=hS
       have cb:b6z stR.d b1s (F+1) a m b l=if(a+b)/2<(a+b)/2+m-i∧(a+b)/2+m-i<b then b6z stR.d b1s F ((a+b)/2) ((a+b)/2+m-i) b (if a<i∧i<(a+b)/2 then b6z stR.d b1s F a i ((a+b)/2) (c0b stR.d a m b i l)else c0b stR.d a m b i l)else if a<i∧i<(a+b)/2 then b6z stR.d b1s F a i ((a+b)/2) (c0b stR.d a m b i l)else c0b stR.d a m b i l:=by rw[b6z,Iy hA,Iy hB,←i5]
       clear i5
       by_cases c1:i<m∧m<(a+b)/2+m-i
       ·by_cases c2:a<i∧i<(a+b)/2
        ·by_cases c3:(a+b)/2<(a+b)/2+m-i∧(a+b)/2+m-i<b
         ·have sR:Sub (c82 stR.d i m ((a+b)/2+m-i) l) l:=b4q Dt Dt
          have sQ:Sub (b6z stR.d b1s F a i ((a+b)/2) (c82 stR.d i m ((a+b)/2+m-i) l)) l:=(b1f F a i _ _ Dt Dt Eu).trans sR
          rw[Iw c3,Iw c2,c0b,Iw c1]at cb
          refine wln _ ?_;(repeat' first|constructor|refine Iu fun hu=> ?_|intro h);all_goals refine Lm ?_
          all_goals(try simp only[I8,I9,b4y,e6,bz,sR.1,sQ.1,If]at*)
          all_goals(try first
           |exact A0
           |(intro _ _;left;rw[cb];done))
          all_goals  skip
         ·have sR:Sub (c82 stR.d i m ((a+b)/2+m-i) l) l:=b4q Dt Dt
          have sQ:Sub (b6z stR.d b1s F a i ((a+b)/2) (c82 stR.d i m ((a+b)/2+m-i) l)) l:=(b1f F a i _ _ Dt Dt Eu).trans sR
          rw[Iy c3,Iw c2,c0b,Iw c1]at cb
          refine wln _ ?_;(repeat' first|constructor|refine Iu fun hu=> ?_|intro h);all_goals refine Lm ?_
          all_goals(try simp only[I8,I9,b4y,e6,bz,sR.1,sQ.1,If]at*)
          all_goals(try first
           |exact A0
           |(intro _ _;left;rw[cb];done))
          all_goals  skip
        ·by_cases c3:(a+b)/2<(a+b)/2+m-i∧(a+b)/2+m-i<b
         ·have sR:Sub (c82 stR.d i m ((a+b)/2+m-i) l) l:=b4q Dt Dt
          have sQ:Sub (c82 stR.d i m ((a+b)/2+m-i) l) l:=sR
          rw[Iw c3,Iy c2,c0b,Iw c1]at cb
          refine wln _ ?_;(repeat' first|constructor|refine Iu fun hu=> ?_|intro h);all_goals refine Lm ?_
          all_goals(try simp only[I8,I9,b4y,e6,bz,sR.1,If]at*)
          all_goals(try first
           |exact A0
           |(intro _ _;left;rw[cb];done))
          all_goals  skip
         ·have sR:Sub (c82 stR.d i m ((a+b)/2+m-i) l) l:=b4q Dt Dt
          have sQ:Sub (c82 stR.d i m ((a+b)/2+m-i) l) l:=sR
          rw[Iy c3,Iy c2,c0b,Iw c1]at cb
          refine wln _ ?_;(repeat' first|constructor|refine Iu fun hu=> ?_|intro h);all_goals refine Lm ?_
          all_goals(try simp only[I8,I9,b4y,e6,bz,sR.1,If]at*)
          all_goals(try first
           |exact A0
           |(intro _ _;left;rw[cb];done))
          all_goals  skip
       ·by_cases c2:a<i∧i<(a+b)/2
        ·by_cases c3:(a+b)/2<(a+b)/2+m-i∧(a+b)/2+m-i<b
         ·have sR:Sub (l) l:=Sub.refl l
          have sQ:Sub (b6z stR.d b1s F a i ((a+b)/2) (l)) l:=(b1f F a i _ _ Dt Dt Eu).trans sR
          rw[Iw c3,Iw c2,c0b,Iy c1]at cb
          refine wln _ ?_;(repeat' first|constructor|refine Iu fun hu=> ?_|intro h);all_goals refine Lm ?_
          all_goals(try simp only[I8,I9,b4y,e6,bz,sQ.1,If]at*)
          all_goals(try first
           |exact A0
           |(intro _ _;left;rw[cb];done))
          all_goals  skip
         ·have sR:Sub (l) l:=Sub.refl l
          have sQ:Sub (b6z stR.d b1s F a i ((a+b)/2) (l)) l:=(b1f F a i _ _ Dt Dt Eu).trans sR
          rw[Iy c3,Iw c2,c0b,Iy c1]at cb
          refine wln _ ?_;(repeat' first|constructor|refine Iu fun hu=> ?_|intro h);all_goals refine Lm ?_
          all_goals(try simp only[I8,I9,b4y,e6,bz,sQ.1,If]at*)
          all_goals(try first
           |exact A0
           |(intro _ _;left;rw[cb];done))
          all_goals  skip
        ·by_cases c3:(a+b)/2<(a+b)/2+m-i∧(a+b)/2+m-i<b
         ·have sR:Sub (l) l:=Sub.refl l
          have sQ:Sub (l) l:=sR
          rw[Iw c3,Iy c2,c0b,Iy c1]at cb
          refine wln _ ?_;(repeat' first|constructor|refine Iu fun hu=> ?_|intro h);all_goals refine Lm ?_
          all_goals(try simp only[I8,I9,b4y,e6,bz,If]at*)
          all_goals(try first
           |exact A0
           |(intro _ _;left;rw[cb];done))
          all_goals  skip
         ·have sR:Sub (l) l:=Sub.refl l
          have sQ:Sub (l) l:=sR
          rw[Iy c3,Iy c2,c0b,Iy c1]at cb
          refine wln _ ?_;(repeat' first|constructor|refine Iu fun hu=> ?_|intro h);all_goals refine Lm ?_
          all_goals(try simp only[I8,I9,b4y,e6,bz,If]at*)
          all_goals(try first
           |exact A0
           |(intro _ _;left;rw[cb];done))
          all_goals  skip
    ·refine wlk _ ?_;(repeat' first|constructor|refine Iu fun hu=> ?_|intro h);all_goals refine Lm ?_
     all_goals(try simp only[I8,b4y]at*)
     all_goals(try first
      |exact A3)
     refine⟨(m-a,a,m),⟨J2 _,by show a≤m;omega,J2 _,by show (a+b)/2+m-b≤a;omega,by show m≤(a+b)/2;omega,J2 _,by unfold c7y;rw[if_neg hm]⟩,?_,?_⟩
     ·refine wln _ ?_;(repeat' first|constructor|refine Iu fun hu=> ?_|intro h);all_goals refine Lm ?_
      all_goals(try simp only[J7,b4y])
      all_goals first|exact A8|skip
     ·rintro⟨f,i,j⟩ ⟨i1,i2,i3,i6,i7,i4,i5⟩
      try dsimp only at i1 i2 i3 i6 i7 i4 i5
      have e3:(((i:Int)+j)/2).toNat=(i+j)/2:=Dt
      have e5:((((a+b)/2+m-1:Nat):Int)-((i:Int)+j)/2).toNat=(a+b)/2+m-1-(i+j)/2:=Dt
      have e6:((((a+b)/2+m:Nat):Int)-(i:Int)).toNat=(a+b)/2+m-i:=Dt
      by_cases dj:i<j
      ·obtain⟨f,rfl⟩:∃f',f=f'+1:=⟨f-1,Dt⟩
       by_cases hc:b0v (l.getD ((a+b)/2+m-1-(i+j)/2) stR.d).c.x (l.getD ((a+b)/2+m-1-(i+j)/2) stR.d).c.y (l.getD ((a+b)/2+m-1-(i+j)/2) stR.d).c.q (l.getD ((i+j)/2) stR.d).c.x (l.getD ((i+j)/2) stR.d).c.y (l.getD ((i+j)/2) stR.d).c.q<0
       ·refine wln _ ?_;(repeat' first|constructor|refine Iu fun hu=> ?_|intro h);all_goals refine Lm ?_
        all_goals(try simp only[I8,I9,b4y,e3,e5]at*)
        all_goals(try first
         |exact A6)
        rw[d07 dj (j4g (b49.2 hc))]at i5
        refine⟨(f,i,(i+j)/2),⟨i1,Ft,He,i6,by show (i+j)/2≤(a+b)/2;omega,Gj,i5⟩,Ea,?_⟩
        all_goals refine wln _ ?_;(repeat' first|constructor|refine Iu fun hu=> ?_|intro h);all_goals refine Lm ?_
        all_goals(try simp only[J7,b4y])
        all_goals first|exact A8|skip
       ·refine wln _ ?_;(repeat' first|constructor|refine Iu fun hu=> ?_|intro h);all_goals refine Lm ?_
        all_goals(try simp only[I8,I9,b4y,e3,e5]at*)
        all_goals(try first
         |exact A6)
        rw[d16 dj (j4b (fun hh=>hc (b49.1 hh)))]at i5
        refine⟨(f,(i+j)/2+1,j),⟨Hf,Fs,i3,by show _≤(i+j)/2+1;omega,i7,Gi,i5⟩,Ea,?_⟩
        all_goals refine wln _ ?_;(repeat' first|constructor|refine Iu fun hu=> ?_|intro h);all_goals refine Lm ?_
        all_goals(try simp only[J7,b4y])
        all_goals first|exact A8|skip
      ·rw[c13 dj]at i5
       rw[←i5]at hS
       obtain⟨hS1,hS2,hS3,hS4⟩:=hS
       have cb:b6z stR.d b1s (F+1) a m b l=if(a+b)/2<(a+b)/2+m-i∧(a+b)/2+m-i<b then b6z stR.d b1s F ((a+b)/2) ((a+b)/2+m-i) b (if a<i∧i<(a+b)/2 then b6z stR.d b1s F a i ((a+b)/2) (c0b stR.d a m b i l)else c0b stR.d a m b i l)else if a<i∧i<(a+b)/2 then b6z stR.d b1s F a i ((a+b)/2) (c0b stR.d a m b i l)else c0b stR.d a m b i l:=by rw[b6z,Iy hA,Iy hB,←i5]
       clear i5
       by_cases c1:i<m∧m<(a+b)/2+m-i
       ·by_cases c2:a<i∧i<(a+b)/2
        ·by_cases c3:(a+b)/2<(a+b)/2+m-i∧(a+b)/2+m-i<b
         ·have sR:Sub (c82 stR.d i m ((a+b)/2+m-i) l) l:=b4q Dt Dt
          have sQ:Sub (b6z stR.d b1s F a i ((a+b)/2) (c82 stR.d i m ((a+b)/2+m-i) l)) l:=(b1f F a i _ _ Dt Dt Eu).trans sR
          rw[Iw c3,Iw c2,c0b,Iw c1]at cb
          refine wln _ ?_;(repeat' first|constructor|refine Iu fun hu=> ?_|intro h);all_goals refine Lm ?_
          all_goals(try simp only[I8,I9,b4y,e6,bz,sR.1,sQ.1,If]at*)
          all_goals(try first
           |exact A0
           |(intro _ _;left;rw[cb];done))
          all_goals  skip
         ·have sR:Sub (c82 stR.d i m ((a+b)/2+m-i) l) l:=b4q Dt Dt
          have sQ:Sub (b6z stR.d b1s F a i ((a+b)/2) (c82 stR.d i m ((a+b)/2+m-i) l)) l:=(b1f F a i _ _ Dt Dt Eu).trans sR
          rw[Iy c3,Iw c2,c0b,Iw c1]at cb
          refine wln _ ?_;(repeat' first|constructor|refine Iu fun hu=> ?_|intro h);all_goals refine Lm ?_
          all_goals(try simp only[I8,I9,b4y,e6,bz,sR.1,sQ.1,If]at*)
          all_goals(try first
           |exact A0
           |(intro _ _;left;rw[cb];done))
          all_goals  skip
        ·by_cases c3:(a+b)/2<(a+b)/2+m-i∧(a+b)/2+m-i<b
         ·have sR:Sub (c82 stR.d i m ((a+b)/2+m-i) l) l:=b4q Dt Dt
          have sQ:Sub (c82 stR.d i m ((a+b)/2+m-i) l) l:=sR
          rw[Iw c3,Iy c2,c0b,Iw c1]at cb
          refine wln _ ?_;(repeat' first|constructor|refine Iu fun hu=> ?_|intro h);all_goals refine Lm ?_
          all_goals(try simp only[I8,I9,b4y,e6,bz,sR.1,If]at*)
          all_goals(try first
           |exact A0
           |(intro _ _;left;rw[cb];done))
          all_goals  skip
         ·have sR:Sub (c82 stR.d i m ((a+b)/2+m-i) l) l:=b4q Dt Dt
          have sQ:Sub (c82 stR.d i m ((a+b)/2+m-i) l) l:=sR
          rw[Iy c3,Iy c2,c0b,Iw c1]at cb
          refine wln _ ?_;(repeat' first|constructor|refine Iu fun hu=> ?_|intro h);all_goals refine Lm ?_
          all_goals(try simp only[I8,I9,b4y,e6,bz,sR.1,If]at*)
          all_goals(try first
           |exact A0
           |(intro _ _;left;rw[cb];done))
          all_goals  skip
       ·by_cases c2:a<i∧i<(a+b)/2
        ·by_cases c3:(a+b)/2<(a+b)/2+m-i∧(a+b)/2+m-i<b
         ·have sR:Sub (l) l:=Sub.refl l
          have sQ:Sub (b6z stR.d b1s F a i ((a+b)/2) (l)) l:=(b1f F a i _ _ Dt Dt Eu).trans sR
          rw[Iw c3,Iw c2,c0b,Iy c1]at cb
          refine wln _ ?_;(repeat' first|constructor|refine Iu fun hu=> ?_|intro h);all_goals refine Lm ?_
          all_goals(try simp only[I8,I9,b4y,e6,bz,sQ.1,If]at*)
          all_goals(try first
           |exact A0
           |(intro _ _;left;rw[cb];done))
          all_goals  skip
         ·have sR:Sub (l) l:=Sub.refl l
          have sQ:Sub (b6z stR.d b1s F a i ((a+b)/2) (l)) l:=(b1f F a i _ _ Dt Dt Eu).trans sR
          rw[Iy c3,Iw c2,c0b,Iy c1]at cb
          refine wln _ ?_;(repeat' first|constructor|refine Iu fun hu=> ?_|intro h);all_goals refine Lm ?_
          all_goals(try simp only[I8,I9,b4y,e6,bz,sQ.1,If]at*)
          all_goals(try first
           |exact A0
           |(intro _ _;left;rw[cb];done))
          all_goals  skip
        ·by_cases c3:(a+b)/2<(a+b)/2+m-i∧(a+b)/2+m-i<b
         ·have sR:Sub (l) l:=Sub.refl l
          have sQ:Sub (l) l:=sR
          rw[Iw c3,Iy c2,c0b,Iy c1]at cb
          refine wln _ ?_;(repeat' first|constructor|refine Iu fun hu=> ?_|intro h);all_goals refine Lm ?_
          all_goals(try simp only[I8,I9,b4y,e6,bz,If]at*)
          all_goals(try first
           |exact A0
           |(intro _ _;left;rw[cb];done))
          all_goals  skip
         ·have sR:Sub (l) l:=Sub.refl l
          have sQ:Sub (l) l:=sR
          rw[Iy c3,Iy c2,c0b,Iy c1]at cb
          refine wln _ ?_;(repeat' first|constructor|refine Iu fun hu=> ?_|intro h);all_goals refine Lm ?_
          all_goals(try simp only[I8,I9,b4y,e6,bz,If]at*)
          all_goals(try first
           |exact A0
           |(intro _ _;left;rw[cb];done))
          all_goals  skip
end Go.Proofs.YtdblhepcmjecgaaGreatDoor.V
