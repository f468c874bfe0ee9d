/-
  Parts of the proof: A33 A34 A35 A36 A37 A40 A42 C25 C26 C28 C27. Conditions: none.
-/
import Derived.Test.YtdblhepcmjecgaaGreatDoorGdc5
import Derived.Test.YtdblhepcmjecgaaGreatDoorGdc8
import Derived.Test.YtdblhepcmjecgaaGreatDoorGdc9
set_option maxRecDepth 100000
set_option maxHeartbeats 40000000
namespace Go.Proofs.YtdblhepcmjecgaaGreatDoor.V
open Go
theorem pSym:∀F,HS nSym (g9k F)
 |0=>by
  refine⟨⟨_,Go.Proofs.Tryz.func227,Du,Du⟩,fun A w args vals own μ r _ _ _ _ _ h hp=> ?_⟩
  unfold g9k at h
  split at h
  ·split at h
   ·cases h
    obtain⟨p1,p2,p3,p4,p5,p6,p7,p8⟩:=hp
    exfalso;omega
   ·cases h
  ·cases h
 |F+1=>pSym1 F (pSym F)
def j0i:HK:=fun args own=>match own with
 |.row T sz n g c::o=>g9k n args (.row T sz n g c::o)
 |_=>none
theorem pSymN:HS nSym j0i:=by
 refine⟨(pSym 0).1,fun A w args vals own μ r q1 q2 q3 q4 q5 h hp=> ?_⟩
 unfold j0i at h
 split at h
 ·exact(pSym _).2 A w args vals _ μ r q1 q2 q3 q4 q5 h hp
 ·cases h
section
variable {α : Type} {d : α} {lt : α → α → Bool}
theorem j30{n f a:Nat}{L:List α}(h:a+20≤n):f96 d lt n (f+1) a L=f96 d lt n f (a+20) (f1s d lt a (a+20) L):=by rw[f96,Iw h]
theorem g2d{n f a:Nat}{L:List α}(h:¬a+20≤n):f96 d lt n f a L=f1s d lt a n L:=by
 cases f with
 |zero=>rfl
 |succ f=>rw[f96,Iy h]
theorem j0u{n bs f a:Nat}{L:List α}(h:a+2*bs≤n):d5x d lt n bs (f+1) a L=d5x d lt n bs f (a+2*bs) (b6z d lt n a (a+bs) (a+2*bs) L):=by rw[d5x,Iw h]
theorem g1u{n bs f a:Nat}{L:List α}(h:¬a+2*bs≤n)(k:a+bs<n):d5x d lt n bs f a L=b6z d lt n a (a+bs) n L:=by
 cases f with
 |zero=>rw[d5x,Iw k]
 |succ f=>rw[d5x,Iy h,Iw k]
theorem f95{n bs f a:Nat}{L:List α}(h:¬a+2*bs≤n)(k:¬a+bs<n):d5x d lt n bs f a L=L:=by
 cases f with
 |zero=>rw[d5x,Iy k]
 |succ f=>rw[d5x,Iy h,Iy k]
theorem j17{n f bs:Nat}{L:List α}(h:bs<n):f59 d lt n (f+1) bs L=f59 d lt n f (2*bs) (d5x d lt n bs n 0 L):=by rw[f59,Iw h]
theorem f6g{n f bs:Nat}{L:List α}(h:¬bs<n):f59 d lt n f bs L=L:=by
 cases f with
 |zero=>rfl
 |succ f=>rw[f59,Iy h]
end
abbrev nStb:FuncId:=192
def hStb:HK:=fun args own=>match args,own with
 | [.osl 0,.int .i64 k,.clo f []],[.row T 4 n g _]=>if T=b7r∧f=c3d then some ⟨stR.isL n g∧n≤100000∧k=n∧(∀s∈stR.lst n g,inK .u8 s.c.q),.tup [],[.row b7r 4 (stR.lst n g).length (stR.row (c8e stR.d b1s (stR.lst n g))) none],[]⟩else none
 |_,_=>none
def FStb:FamH:=⟨List Stk,fun(l:List Stk)=>[.osl 0,.int .i64 (l.length:Int),.clo c3d []],fun(l:List Stk)=>[.row b7r 4 l.length (stR.row l) none],fun(l:List Stk)=>l.length≤100000∧∀s∈l,inK .u8 s.c.q,fun _=>.tup [],fun(l:List Stk)=>[.row b7r 4 l.length (stR.row (c8e stR.d b1s l)) none],[]⟩
def IStb:List Stk→Nat→Option Inv
 |l,2=>some {β:=Nat×Nat×List Stk,ok:=fun(f,a,L)=>Sub L l∧a≤l.length∧l.length-a≤f∧f96 stR.d b1s l.length f a L=f96 stR.d b1s l.length l.length 0 l,st:=fun(_,a,L)=>⟨[⟨8,none,.int .i64 ((a:Int)+20)⟩,⟨7,none,.int .i64 a⟩,⟨6,none,.int .i64 20⟩,⟨2,none,.clo c3d []⟩,⟨1,none,.int .i64 (l.length:Int)⟩,⟨0,none,.osl 0⟩],[.row b7r 4 l.length (stR.row L) none]⟩,μ:=fun(f,_)=>f}
 |l,7=>some {β:=Nat×Nat×List Stk,ok:=fun(f,bs,L)=>Sub L l∧20≤bs∧bs≤2*l.length+40∧l.length≤bs+f∧f59 stR.d b1s l.length f bs L=c8e stR.d b1s l,st:=fun(_,bs,L)=>⟨[⟨6,none,.int .i64 bs⟩,⟨2,none,.clo c3d []⟩,⟨1,none,.int .i64 (l.length:Int)⟩,⟨0,none,.osl 0⟩],[.row b7r 4 l.length (stR.row L) none]⟩,μ:=fun(f,_)=>f,sub:=fun(f,bs,_)=>some fun
  |9=>some {β:=Nat×Nat×List Stk,ok:=fun(g,a,M)=>Sub M l∧a≤l.length∧l.length-a≤g∧bs<l.length∧f59 stR.d b1s l.length (f-1) (2*bs) (d5x stR.d b1s l.length bs g a M)=c8e stR.d b1s l,st:=fun(_,a,M)=>⟨[⟨8,none,.int .i64 ((a:Int)+2*bs)⟩,⟨7,none,.int .i64 a⟩,⟨6,none,.int .i64 bs⟩,⟨2,none,.clo c3d []⟩,⟨1,none,.int .i64 (l.length:Int)⟩,⟨0,none,.osl 0⟩],[.row b7r 4 l.length (stR.row M) none]⟩,μ:=fun(g,_)=>g}
  |_=>none}
 |_,_=>none
theorem pStb:HS nStb hStb:=by
 refine c90 {h:=[(nSym,j0i),(nIns,hIns)]} ⟨Dv,Dv,by simpa using⟨pSymN,pIns⟩⟩ FStb IStb hStb ?_ ?_ ?_ Go.Proofs.Tryz.func192 Du Du Du ?_
 ·intro args own r h hp
  unfold hStb at h
  split at h
  ·rename_i k f T n g c
   split at h
   ·rename_i hT
    obtain⟨rfl,rfl⟩:=hT
    cases h
    obtain⟨p1,p2,p3,p4⟩:=hp
    have hl:=RT.lst_length stR n g
    exact⟨stR.lst n g,⟨E3,Ee,E3,Ix⟩,rfl,c3c p1,⟨Dt,p4⟩,rfl,rfl,rfl⟩
   ·cases h
  ·cases h
 ·exact Bw
 ·exact C2
 ·rintro(l:List Stk) μ hp
  replace hp:l.length≤100000∧∀s∈l,inK .u8 s.c.q:=hp
  obtain⟨h0,h5⟩:=hp
  have bz:∀L:List Stk,L.length=l.length→stR.lst l.length (stR.row L)=L:=fun L e=>by rw[←e];exact RT.lst_row _ _
  have nv:∀L:List Stk,L.length=l.length→stR.isL l.length (stR.row L):=fun L e=>by rw[←e];exact stR.isL_row L
  refine wlk _ ?_;(repeat' first|constructor|refine Iu fun hu=> ?_|intro h);all_goals refine Lm ?_
  all_goals(try simp only[I8,I9]at*)
  all_goals(try first
   |exact Ai)
  refine⟨(l.length,0,l),⟨Sub.refl l,J5 _,by show l.length-0≤l.length;omega,rfl⟩,?_,?_⟩
  ·refine wln _ ?_;(repeat' first|constructor|refine Iu fun hu=> ?_|intro h);all_goals refine Lm ?_
   all_goals(try simp only[J7])
   all_goals first|exact B7|rfl|skip
  ·rintro⟨f,a,L⟩ ⟨k1,k2,k3,k4⟩
   try dsimp only at k1 k2 k3 k4
   have kl:=k1.1
   have e1:((a:Int)+20).toNat=a+20:=Dt
   by_cases ha:a+20≤l.length
   ·obtain⟨f,rfl⟩:∃f',f=f'+1:=⟨f-1,Dt⟩
    rw[j30 ha]at k4
    have sI:=(c21 (d:=stR.d) (lt:=b1s) (a:=a) (b:=a+20) (l:=L) Dt).trans k1
    refine wln _ ?_;(repeat' first|constructor|refine Iu fun hu=> ?_|intro h);all_goals refine Lm ?_
    all_goals(try simp only[I8,e1,bz,k1.1]at*)
    all_goals(try first
     |exact Ba)
    refine⟨(f,a+20,f1s stR.d b1s a (a+20) L),⟨sI,ha,by show l.length-(a+20)≤f;omega,k4⟩,Ea,?_⟩
    all_goals refine wln _ ?_;(repeat' first|constructor|refine Iu fun hu=> ?_|intro h);all_goals refine Lm ?_
    all_goals(try simp only[J7,e1,bz,k1.1])
    all_goals first|exact B7|rfl|skip
   ·rw[g2d ha]at k4
    have sI:=(c21 (d:=stR.d) (lt:=b1s) (a:=a) (b:=l.length) (l:=L) Dt).trans k1
    refine wln _ ?_;(repeat' first|constructor|refine Iu fun hu=> ?_|intro h);all_goals refine Lm ?_
    all_goals(try simp only[I8,e1,bz,k1.1]at*)
    all_goals(try first
     |exact Ba)
    refine⟨(l.length,20,f1s stR.d b1s a l.length L),⟨sI,J2 _,by show 20≤2*l.length+40;omega,by show l.length≤20+l.length;omega,by show f59 stR.d b1s l.length l.length 20 (f1s stR.d b1s a l.length L)=_;rw[k4];rfl⟩,?_,?_⟩
    ·refine wln _ ?_;(repeat' first|constructor|refine Iu fun hu=> ?_|intro h);all_goals refine Lm ?_
     all_goals(try simp only[J7,e1,bz,k1.1])
     all_goals first|exact B7|rfl|skip
    ·clear k1 k2 k3 k4 kl sI e1 ha
     rintro⟨f,bs,L⟩ ⟨k1,k2,k3,k4,k5⟩
     try dsimp only at k1 k2 k3 k4 k5
     have kl:=k1.1
     by_cases hb:bs<l.length
     ·obtain⟨f,rfl⟩:∃f',f=f'+1:=⟨f-1,Dt⟩
      rw[j17 hb]at k5
      refine wln _ ?_;(repeat' first|constructor|refine Iu fun hu=> ?_|intro h);all_goals refine Lm ?_
      all_goals(try simp only[I8,k1.1]at*)
      all_goals(try first
       |exact Ai)
      refine⟨(l.length,0,L),⟨k1,J5 _,by show l.length-0≤l.length;omega,hb,k5⟩,?_,?_⟩
      ·refine wln _ ?_;(repeat' first|constructor|refine Iu fun hu=> ?_|intro h);all_goals refine Lm ?_
       all_goals(try simp only[J7])
       all_goals first|exact B7|rfl|skip
      ·clear k1 k5 kl
       rintro⟨g,a,L⟩ ⟨k1,k6,k7,k8,k9⟩
       try dsimp only at k1 k6 k7 k8 k9
       have kl:=k1.1
       have e1:((a:Int)+bs).toNat=a+bs:=Dt
       have e2:((a:Int)+2*bs).toNat=a+2*bs:=Dt
       by_cases ha:a+2*bs≤l.length
       ·obtain⟨g,rfl⟩:∃g',g=g'+1:=⟨g-1,Dt⟩
        rw[j0u ha]at k9
        have sS:=(b1f (d:=stR.d) (lt:=b1s) l.length a (a+bs) (a+2*bs) L Dt Dt Dt).trans k1
        refine wln _ ?_;(repeat' first|constructor|refine Iu fun hu=> ?_|intro h);all_goals refine Lm ?_
        all_goals(try simp only[I8,e1,e2,bz,k1.1]at*)
        all_goals(try first
         |exact Ar)
        refine⟨(g,a+2*bs,b6z stR.d b1s l.length a (a+bs) (a+2*bs) L),⟨sS,ha,by show l.length-(a+2*bs)≤g;omega,hb,k9⟩,by show g<g+1;omega,?_⟩
        all_goals refine wln _ ?_;(repeat' first|constructor|refine Iu fun hu=> ?_|intro h);all_goals refine Lm ?_
        all_goals(try simp only[J7,e1,e2,bz,k1.1])
        all_goals first|exact B7|rfl|skip
       ·by_cases hc:a+bs<l.length
        ·rw[g1u ha hc]at k9
         have sS:=(b1f (d:=stR.d) (lt:=b1s) l.length a (a+bs) l.length L Dt Dt Dt).trans k1
         refine wln _ ?_;(repeat' first|constructor|refine Iu fun hu=> ?_|intro h);all_goals refine Lm ?_
         all_goals(try simp only[I8,e1,e2,bz,k1.1]at*)
         all_goals(try first
          |exact Ar)
         refine⟨(f,2*bs,b6z stR.d b1s l.length a (a+bs) l.length L),⟨sS,by show 20≤2*bs;omega,by show 2*bs≤_;omega,by show l.length≤2*bs+f;omega,k9⟩,Ea,?_⟩
         all_goals refine wln _ ?_;(repeat' first|constructor|refine Iu fun hu=> ?_|intro h);all_goals refine Lm ?_
         all_goals(try simp only[J7,e1,e2,bz,k1.1])
         all_goals first|exact B7|rfl|skip
        ·rw[f95 ha hc]at k9
         refine wln _ ?_;(repeat' first|constructor|refine Iu fun hu=> ?_|intro h);all_goals refine Lm ?_
         all_goals(try simp only[I8,e1,e2,bz,k1.1]at*)
         all_goals(try first
          |exact Ar)
         refine⟨(f,2*bs,L),⟨k1,by show 20≤2*bs;omega,by show 2*bs≤_;omega,by show l.length≤2*bs+f;omega,k9⟩,Ea,?_⟩
         all_goals refine wln _ ?_;(repeat' first|constructor|refine Iu fun hu=> ?_|intro h);all_goals refine Lm ?_
         all_goals(try simp only[J7,e1,e2,bz,k1.1])
         all_goals first|exact B7|rfl|skip
     ·rw[f6g hb]at k5
      refine wln _ ?_;(repeat' first|constructor|refine Iu fun hu=> ?_|intro h);all_goals refine Lm ?_
      all_goals(try simp only[I8,k1.1]at*)
      all_goals(try first
       |exact Ai
       |(intro _ _;left;rw[←k5];done))
abbrev f5h:FuncId:=120
def d2h:HK:=fun args own=>match args,own with
 | [.osl 0,.clo f []],[.row T 4 n g _]=>if T=b7r∧f=c3d then some ⟨stR.isL n g∧n≤100000∧(∀s∈stR.lst n g,inK .u8 s.c.q),.tup [],[.row b7r 4 (stR.lst n g).length (stR.row (c8e stR.d b1s (stR.lst n g))) none],[]⟩else none
 |_,_=>none
def j3d:FamH:=⟨List Stk,fun _=>[.osl 0,.clo c3d []],fun(l:List Stk)=>[.row b7r 4 l.length (stR.row l) none],fun(l:List Stk)=>l.length≤100000∧∀s∈l,inK .u8 s.c.q,fun _=>.tup [],fun(l:List Stk)=>[.row b7r 4 l.length (stR.row (c8e stR.d b1s l)) none],[]⟩
theorem j2g:HS f5h d2h:=by
 refine c90 {h:=[(nStb,hStb)]} ⟨Dv,Dv,by simpa using pStb⟩ j3d (fun _ _=>none) d2h ?_ ?_ ?_ Go.Proofs.Tryz.func120 Du Du Du ?_
 ·intro args own r h hp
  unfold d2h at h
  split at h
  ·rename_i f T n g c
   split at h
   ·rename_i hT
    obtain⟨rfl,rfl⟩:=hT
    cases h
    obtain⟨p1,p2,p4⟩:=hp
    have hl:=RT.lst_length stR n g
    exact⟨stR.lst n g,⟨E3,E3,Ix⟩,rfl,c3c p1,⟨Dt,p4⟩,rfl,rfl,rfl⟩
   ·cases h
  ·cases h
 ·exact Bv
 ·exact C2
 ·rintro(l:List Stk) μ hp
  replace hp:l.length≤100000∧∀s∈l,inK .u8 s.c.q:=hp
  obtain⟨h0,h5⟩:=hp
  have bz:stR.lst l.length (stR.row l)=l:=RT.lst_row _ _
  have nv:stR.isL l.length (stR.row l):=stR.isL_row l
  refine wlk _ ?_;(repeat' first|constructor|refine Iu fun hu=> ?_|intro h);all_goals refine Lm ?_
  all_goals(try simp only[bz])
  all_goals first
   |exact⟨nv,h0,Ix,h5⟩
   |exact⟨nv,h0,rfl,h5⟩
   |exact B9
   |rfl
   |exact Ad
   |exact A4
   |skip
def g7i(P:Stk→Bool)(l:List Stk):Int:=match l.findIdx? P with
 |some i=>i
 |none=> -1
theorem g40{P:Stk→Bool}{l:List Stk}{i:Nat}(hi:i<l.length)(h:∀j,j<i→P (l.getD j stR.d)=false)(hv:P (l.getD i stR.d)=true):g7i P l=i:=by
 have:l.findIdx? P=some i:=by
  rw[K0]
  refine⟨hi,?_,fun j hj=> ?_⟩
  ·simpa[It,hi]using hv
  ·have:=h j hj
   have bh:j<l.length:=Dt
   simpa[It,bh]using this
 simp[g7i,this]
theorem f7a{P:Stk→Bool}{l:List Stk}(h:∀j,j<l.length→P (l.getD j stR.d)=false):g7i P l= -1:=by
 have:l.findIdx? P=none:=by
  rw[Kh]
  intro x hx
  obtain⟨j,hj,rfl⟩:=Jg.1 hx
  have:=h j hj
  simpa[It,hj]using this
 simp[g7i,this]
theorem g76(P:Stk→Bool)(l:List Stk):decide (0≤g7i P l)=l.any P:=by
 unfold g7i
 cases h:l.findIdx? P with
 |none=>
  have:=Kh.1 h
  have:l.any P=false:=by
   rw[Ji]
   intro x hx
   simpa using this x hx
  rw[this];rfl
 |some i=>
  have:=K0.1 h
  obtain⟨hi,hp,_⟩:=this
  have:l.any P=true:=Jc.2 ⟨_,Jn hi,hp⟩
  rw[this]
  simp
def badC(a b c:Int):Bool:= !decide (b0q a b c=0)
def g0h(s:Stk):Bool:=badC s.c.x s.c.y s.c.q
abbrev j32:FuncId:=119
def kMv1:Kon
 | [.agg [.int .i64 a,.int .i64 b,.int .u8 c,x]]=>match b04.as x with
   |some u=>some (b04.isL u.1 u.2,.bool (badC a b c))
   |none=>none
 |_=>none
def FMv1:Fam:=⟨Stk,fun s=>[.agg [.int .i64 s.c.x,.int .i64 s.c.y,.int .u8 s.c.q,.sl 1 s.l.length (b04.row s.l) none]],fun _=>True,fun s=>.bool (g0h s)⟩
theorem pMv1:PS j32 kMv1:=by
 refine con [(b3r,b14)] H0 FMv1 (fun _ _=>none) kMv1 ?_ ?_ Go.Proofs.Tryz.func119 Du Du Du ?_
 ·intro args pre s h hp
  unfold kMv1 at h
  split at h
  ·rename_i a b c x
   split at h
   ·rename_i u h1
    cases h
    refine⟨⟨⟨a,b,c⟩,b04.lst u.1 u.2⟩,⟨⟨Dz,Dz,Dz,b04.as_leL h1 hp,Ix⟩,Ix⟩,Ix,rfl⟩
   ·cases h
  ·cases h
 ·exact Bu
 ·rintro(s:Stk) hp
  refine wlk _ ?_;(repeat' first|constructor|refine Iu fun hu=> ?_|intro h);all_goals refine Lm ?_
  all_goals(first
   |exact Ix
   |rfl
   |skip)
abbrev g98:FuncId:=191
def f0d:Kon
 | [x,.clo g []]=>if g=j32 then(d2w x).map fun q=>(q.1,.int .i64 (g7i g0h q.2))else none
 |_=>none
def FIdxFS:Fam:=⟨List Stk,fun L=>[b7u L,.clo j32 []],fun L=>b2y L,fun L=>.int .i64 (g7i g0h L)⟩
def IIdxFS:List Stk→Nat→Option Inv
 |l,2=>some {β:=Nat,ok:=fun i=>i≤l.length∧∀j,j<i→g0h (l.getD j stR.d)=false,st:=fun i=>⟨[⟨8,none,.int .i64 i⟩,⟨7,none,.int .i64 l.length⟩,⟨1,none,.clo j32 []⟩,⟨0,none,b7u l⟩],[]⟩,μ:=fun i=>l.length-i}
 |_,_=>none
theorem pIdxFS:PS g98 f0d:=by
 refine con [(j32,kMv1)] (by simpa using pMv1) FIdxFS IIdxFS f0d ?_ ?_ Go.Proofs.Tryz.func191 Du Du Du ?_
 ·intro args pre s h hp
  unfold f0d at h
  split at h
  ·split at h
   ·rename_i hg
    subst hg
    simp only[Ia]at h
    obtain⟨⟨q,L⟩,hx,rfl,rfl⟩:=h
    obtain⟨h1,h2⟩:=b4j hx hp
    exact Dr
   ·cases h
  ·cases h
 ·exact Bv
 ·rintro(l:List Stk) hp
  replace hp:b2y l:=hp
  have hl:l.length≤100000:=hp.1
  refine wlk _ ?_;(repeat' first|constructor|refine Iu fun hu=> ?_|intro h);all_goals refine Lm ?_
  refine⟨(0:Nat),⟨J5 _,fun j hj=>Dt⟩,?_,?_⟩
  ·refine wlk _ ?_;(repeat' first|constructor|refine Iu fun hu=> ?_|intro h);all_goals refine Lm ?_
   all_goals first|exact A5|exact Ad|skip
  ·intro i hi
   obtain⟨cw,be⟩:=hi
   replace cw:i≤l.length:=cw
   refine wlk _ ?_;(repeat' first|constructor|refine Iu fun hu=> ?_|intro h);all_goals refine Lm ?_
   all_goals(try simp only[I8]at*)
   all_goals(try first
    |exact An
    |exact b04.isL_row _
    |exact fun _=>b04.isL_row _
    |exact(g40 Dt be Dx).symm
    |exact(f7a fun j hj=>be j Dt).symm
    |exact Bm)
   refine⟨i+1,⟨Hg,fun j hj=> ?_⟩,E6,?_⟩
   ·by_cases e:j<i
    ·exact be j e
    ·have:j=i:=Dt
     subst this
     assumption
   ·refine wlk _ ?_;(repeat' first|constructor|refine Iu fun hu=> ?_|intro h);all_goals refine Lm ?_
    all_goals first|omega|exact A5|exact Ad|skip
abbrev g9u:FuncId:=118
def f1x:Kon
 | [x,.clo g []]=>if g=j32 then(d2w x).map fun q=>(q.1,.bool (q.2.any g0h))else none
 |_=>none
def FCntFS:Fam:=⟨List Stk,fun L=>[b7u L,.clo j32 []],fun L=>b2y L,fun L=>.bool (L.any g0h)⟩
theorem pCntFS:PS g9u f1x:=by
 refine con [(g98,f0d)] (by simpa using pIdxFS) FCntFS (fun _ _=>none) f1x ?_ ?_ Go.Proofs.Tryz.func118 Du Du Du ?_
 ·intro args pre s h hp
  unfold f1x at h
  split at h
  ·split at h
   ·rename_i hg
    subst hg
    simp only[Ia]at h
    obtain⟨⟨q,L⟩,hx,rfl,rfl⟩:=h
    obtain⟨h1,h2⟩:=b4j hx hp
    exact Dr
   ·cases h
  ·cases h
 ·exact Bv
 ·rintro(l:List Stk) hp
  replace hp:b2y l:=hp
  refine wlk _ ?_;(repeat' first|constructor|refine Iu fun hu=> ?_|intro h);all_goals refine Lm ?_
  all_goals(try simp only[RT.lst_row]at*)
  all_goals(first
   |exact⟨stR.isL_row l,hp.1,hp.2⟩
   |exact g76 _ _
   |skip)
def cmEs(r:Mv)(s:Stk):Int:=cmE r.t r.x r.y s.c.x s.c.y s.c.q
def mvS(r:Mv)(s:Stk):Stk:=⟨⟨mvX r.t r.x r.y s.c.x s.c.y,mvY r.t r.x r.y s.c.x s.c.y,mvQ r.t s.c.q⟩,s.l⟩
def smE(r:Mv)(L:List Stk):Int:=if b1d r.t r.x r.y=0∧L.any g0h=false then(if L.all (fun s=>decide (cmEs r s=0))=true then 0 else 3)else 1
def c89(r:Mv)(L:List Stk):List Stk:=if smE r L=0 then c8e stR.d b1s (L.map (mvS r))else []
theorem j4u{r:Mv}{L:List Stk}(h:¬b1d r.t r.x r.y=0):smE r L=1:=by unfold smE;rw[if_neg (fun hh=>h hh.1)]
theorem g75{r:Mv}{L:List Stk}(h:L.any g0h=true):smE r L=1:=by unfold smE;rw[if_neg (fun hh=>by simp[hh.2]at h)]
theorem g0a{r:Mv}{L:List Stk}{i:Nat}(h1:b1d r.t r.x r.y=0)(h2:L.any g0h=false)(hi:i<L.length)(h:¬cmEs r (L.getD i stR.d)=0):smE r L=3:=by
 unfold smE
 rw[Iw ⟨h1,h2⟩,Iy]
 intro hh
 rw[J4]at hh
 have:=hh _ (Jn hi)
 rw[Jz]at this
 apply h
 simpa[It,hi]using this
theorem g4q{r:Mv}{L:List Stk}(h1:b1d r.t r.x r.y=0)(h2:L.any g0h=false)(h:∀i,i<L.length→cmEs r (L.getD i stR.d)=0):smE r L=0:=by
 unfold smE
 rw[Iw ⟨h1,h2⟩,Iw]
 rw[J4]
 intro s hs
 obtain⟨i,hi,rfl⟩:=Jg.1 hs
 have:=h i hi
 simpa[It,hi]using this
theorem g5z{r:Mv}{L:List Stk}(h:smE r L≠0):(c89 r L).length=0:=by unfold c89;rw[if_neg h];rfl
def c6p(r:Mv)(L:List Stk)(i q:Nat):List SV:=[.int .i64 (if q<i then(mvS r (L.getD q stR.d)).c.x else 0),.int .i64 (if q<i then(mvS r (L.getD q stR.d)).c.y else 0),.int .u8 (if q<i then(mvS r (L.getD q stR.d)).c.q else 0),if q<i then .sl 1 (L.getD q stR.d).l.length (b04.row (L.getD q stR.d).l) none else .con (.slice none 0 0)]
theorem g63{r:Mv}{L:List Stk}{i q:Nat}(h:q<i):c6p r L i q=stR.sv (mvS r (L.getD q stR.d)):=by simp only[c6p,Iw h];rfl
theorem g3x{r:Mv}{L:List Stk}{i q:Nat}(h:¬q<i):c6p r L i q=f5f:=by simp only[c6p,Iy h];rfl
theorem g9a{r:Mv}{L:List Stk}{q:Nat}(h:q<L.length):c6p r L L.length q=stR.row (L.map (mvS r)) q:=by
 rw[g63 h]
 simp[RT.row,h]
theorem sm_lst{r:Mv}{L:List Stk}:stR.lst L.length (c6p r L L.length)=L.map (mvS r):=by
 have e:stR.lst L.length (c6p r L L.length)=stR.lst L.length (stR.row (L.map (mvS r))):=by
  simp only[RT.lst]
  apply List.map_congr_left
  intro q hq
  rw[g9a Fk]
 have k:=RT.lst_row stR (L.map (mvS r))
 rw[Js]at k
 rw[e,k]
theorem sm_isL{r:Mv}{L:List Stk}:stR.isL L.length (c6p r L L.length):=by
 intro q hq
 rw[g9a hq]
 exact stR.isL_row (L.map (mvS r)) q Fk
theorem g8e(t Q:Int):inK .u8 (mvQ t Q):=by
 simp only[mvQ,g4k]
 cases c2b t Q 3<;>cases c2b t Q 2<;>cases c2b t Q 1<;>cases c2b t Q 0<;>simp[inK]
theorem j3v{r:Mv}{L:List Stk}{i q:Nat}{c:Option Nat}:d0g (b9m (decide (q=i)) [.int .i64 (mvX r.t r.x r.y (L.getD i stR.d).c.x (L.getD i stR.d).c.y),.int .i64 (mvY r.t r.x r.y (L.getD i stR.d).c.x (L.getD i stR.d).c.y),.int .u8 (mvQ r.t (L.getD i stR.d).c.q),.sl 1 (L.getD i stR.d).l.length (b04.row (L.getD i stR.d).l) c] (c6p r L i q)) (c6p r L (i+1) q):=by
 by_cases e:q=i
 ·subst e
  rw[g63 (Nat.lt_succ_self _),g3x (Ln _),Jw rfl]
  right
  exact⟨rfl,rfl,rfl,⟨rfl,Fe,by cases c<;>trivial,fun _ _=>rfl⟩,Ix⟩
 ·left
  rw[Jq e]
  by_cases h:q<i
  ·rw[g63 h,g63 Dt];rfl
  ·rw[g3x h,g3x Dt];rfl
abbrev c54:FuncId:=69
def c0a:Kon
 | [x,.agg [.int .u8 t,.int .i64 a,.int .i64 b]]=>(d2w x).map fun q=>(q.1∧0≤t∧t≤255∧∀s∈q.2,inK .u8 s.c.q,.tup [.sl 4 (c89 ⟨t,a,b⟩ q.2).length (stR.row (c89 ⟨t,a,b⟩ q.2)) none,.int .i64 (smE ⟨t,a,b⟩ q.2)])
 |_=>none
def j1c:Fam:=⟨List Stk×Mv,fun(L,r)=>[b7u L,g2n r],fun(L,r)=>b2y L∧0≤r.t∧r.t≤255∧∀s∈L,inK .u8 s.c.q,fun(L,r)=>.tup [.sl 4 (c89 r L).length (stR.row (c89 r L)) none,.int .i64 (smE r L)]⟩
def j1h:List Stk×Mv→Nat→Option Inv
 |(L,r),5=>some {β:=Nat,ok:=fun i=>i≤L.length∧∀j,j<i→cmEs r (L.getD j stR.d)=0,st:=fun i=>⟨[⟨23,none,.int .i64 i⟩,⟨22,none,.int .i64 L.length⟩,⟨21,none,b7u L⟩,⟨6,none,.osl 1⟩,⟨3,none,.own 0 0⟩],[.cells 28 [.int .u8 r.t,.int .i64 r.x,.int .i64 r.y],.row 71 4 L.length (c6p r L i) (some L.length)]⟩,μ:=fun i=>L.length-i}
 |_,_=>none
theorem j0a:PS c54 c0a:=by
 refine f04 {l:=[(b64,b47),(g9u,f1x),(c16,b6n)],h:=[(c32,c78),(f5h,d2h)],gr:=fun id=>bif Nat.beq id 10 then [.fz 4,.flat 1]else []} ⟨by simpa using⟨b7j,pCntFS,c7j⟩,Dv,by simpa using⟨d90,j2g⟩⟩ j1c j1h c0a ?_ ?_ Go.Proofs.Tryz.func69 Du Du Du ?_
 ·intro args pre s h hp
  unfold c0a at h
  split at h
  ·rename_i x t a b
   simp only[Ia]at h
   obtain⟨⟨q,L⟩,hx,rfl,rfl⟩:=h
   obtain⟨bc,bm⟩:=hp
   obtain⟨h1,h2⟩:=b4j hx bc
   exact⟨(L,⟨t,a,b⟩),⟨h1,H6,Ix⟩,⟨h2,bm⟩,rfl⟩
  ·cases h
 ·exact Bv
 ·rintro⟨L,r⟩ hp
  replace hp:b2y L∧0≤r.t∧r.t≤255∧∀s∈L,inK .u8 s.c.q:=hp
  have hl:=hp.1.1
  have b5:smE r L≠0→(c89 r L).length=0:=g5z
  refine wlk _ ?_;(repeat' first|constructor|refine Iu fun hu=> ?_|intro h);all_goals refine Lm ?_
  all_goals(try simp only[RT.lst_row,I9,Jy,Ka,Ie]at*)
  all_goals(try first
   |exact⟨hp.2.1,hp.2.2.1⟩
   |exact fun _=>⟨stR.isL_row L,hl,hp.1.2⟩
   |exact Bg
   |(have e1:smE r L=1:=Or.elim ‹_∨_› j4u g75
     first|exact e1.symm|exact b5 (by rw[e1];decide)))
  have hE:b1d r.t r.x r.y=0∧L.any g0h=false:=‹_∧_›
  refine⟨(0:Nat),⟨J5 _,fun j hj=>Dt⟩,?_,?_⟩
  ·refine wln _ ?_;(repeat' first|constructor|refine Iu fun hu=> ?_|intro h);all_goals refine Lm ?_
   all_goals first|exact Av|(intro q _;exact .inl (by rw[g3x (Je _)];rfl))|exact Ad|rfl|skip
  ·rintro i ⟨hi,hj⟩
   replace hi:i≤L.length:=hi
   have hm:i<L.length→L.getD i stR.d∈L:=fun h=>Hb
   by_cases h9:i<L.length
   ·have hQ:0≤(L.getD i stR.d).c.q:=by have:=hp.2.2.2 _ (hm h9);simp only[inK]at this;omega
    by_cases hc:cmE r.t r.x r.y (L.getD i stR.d).c.x (L.getD i stR.d).c.y (L.getD i stR.d).c.q=0
    ·refine wln _ ?_;(repeat' first|constructor|refine Iu fun hu=> ?_|intro h);all_goals refine Lm ?_
     all_goals(try simp only[I8,I9]at*)
     all_goals(try first
      |exact Bc)
     refine⟨i+1,⟨by show i+1≤L.length;omega,fun j bh=> ?_⟩,E6,?_⟩
     ·by_cases e:j<i
      ·exact hj j e
      ·have:j=i:=Dt
       subst this
       exact hc
     ·have k0:∀v,keep (cmE r.t r.x r.y (L.getD i stR.d).c.x (L.getD i stR.d).c.y (L.getD i stR.d).c.q) v=v:=fun v=>by unfold keep;rw[if_pos hc]
      refine wln _ ?_;(repeat' first|constructor|refine Iu fun hu=> ?_|intro h);all_goals refine Lm ?_
      all_goals(try simp only[k0])
      all_goals first
       |exact B7
       |exact fun _ _=>j3v
       |rfl
       |skip
    ·have e3:smE r L=3:=g0a hE.1 hE.2 h9 hc
     refine wln _ ?_;(repeat' first|constructor|refine Iu fun hu=> ?_|intro h);all_goals refine Lm ?_
     all_goals(try simp only[I8,I9]at*)
     all_goals(try first
      |exact Bc
      |exact e3.symm
      |exact b5 (by rw[e3];decide))
   ·have ei:i=L.length:=Dt
    subst ei
    have e0:smE r L=0:=g4q hE.1 hE.2 hj
    have hZ:c89 r L=c8e stR.d b1s (L.map (mvS r)):=by unfold c89;rw[if_pos e0]
    have nw:(c89 r L).length=L.length:=by rw[hZ,(c60 _).1,Js]
    refine wln _ ?_;(repeat' first|constructor|refine Iu fun hu=> ?_|intro h);all_goals refine Lm ?_
    all_goals(try simp only[I8,sm_lst,Js,I9]at*)
    all_goals(try first
     |(exfalso;omega)
     |omega
     |exact e0.symm
     |exact⟨sm_isL,hl,fun s hs=>by
      obtain⟨u,_,rfl⟩:=Ja.1 hs
      exact g8e _ _⟩
     |(intro _ _;left;rw[hZ];done))
def f06(W H:Int):Pt:=⟨keep (b0e W H) W,keep (b0e W H) H,[]⟩
abbrev g8r:FuncId:=24
def f0s:Kon
 | [.agg [.int .i64 W,.int .i64 H]]=>some (True,.tup [b6i (f06 W H),.int .i64 (b0e W H)])
 |_=>none
def FEmpty:Fam:=⟨Int×Int,fun(W,H)=>[.agg [.int .i64 W,.int .i64 H]],fun _=>True,fun(W,H)=>.tup [b6i (f06 W H),.int .i64 (b0e W H)]⟩
theorem pEmpty:PS g8r f0s:=by
 refine con [(8,b0z)] H3 FEmpty (fun _ _=>none) f0s ?_ ?_ Go.Proofs.Tryz.func24 Du Du Du ?_
 ·intro args pre s h hp
  unfold f0s at h
  split at h
  ·rename_i W H
   cases h
   exact⟨(W,H),⟨E8,Ix⟩,Ix,rfl⟩
  ·cases h
 ·exact Bu
 ·rintro⟨W,H⟩ hp
  have k0:b0e W H=0→∀v,keep (b0e W H) v=v:=fun h v=>by unfold keep;rw[if_pos h]
  have k1:¬b0e W H=0→∀v,keep (b0e W H) v=0:=fun h v=>by unfold keep;rw[if_neg h]
  refine wlk _ ?_;(repeat' first|constructor|refine Iu fun hu=> ?_|intro h);all_goals refine Lm ?_
  all_goals(try simp only[I9,Ie]at*)
  all_goals(first
   |rfl
   |exact(k0 Dx _).symm
   |exact(k1 Dx _).symm
   |assumption
   |(symm;assumption)
   |skip)
def r0:Mv:=⟨0,0,0⟩
def flE(W H:Int):Int:=if b0e W H=0 then b0w ⟨W,H,[]⟩ r0 else b0e W H
def flS(W H:Int):List Stk:=(b01 ⟨W,H,[]⟩ r0).mapIdx fun i c=>⟨c,[(i:Int)]⟩
def flP(W H:Int):Pt:=if flE W H=0 then⟨W,H,[]⟩else⟨0,0,[]⟩
def flL(W H:Int):List Stk:=if flE W H=0 then ovS (flS W H)else []
def c55(l:List Stk)(i q:Nat):List SV:=[.int .i64 (if q<i then(l.getD q stR.d).c.x else 0),.int .i64 (if q<i then(l.getD q stR.d).c.y else 0),.int .u8 (if q<i then(l.getD q stR.d).c.q else 0),if q<i then .sl 1 (l.getD q stR.d).l.length (b04.row (l.getD q stR.d).l) none else .con (.slice none 0 0)]
theorem g2u{l:List Stk}{i q:Nat}(h:q<i):c55 l i q=stR.sv (l.getD q stR.d):=by simp only[c55,Iw h];rfl
theorem g6p{l:List Stk}{i q:Nat}(h:¬q<i):c55 l i q=f5f:=by simp only[c55,Iy h];rfl
theorem g77{l:List Stk}{q:Nat}(h:q<l.length):c55 l l.length q=stR.row l q:=by rw[g2u h];rfl
theorem f1e{W H:Int}{i:Nat}(h:i<(flS W H).length):(flS W H).getD i stR.d=⟨(b01 ⟨W,H,[]⟩ r0).getD i clR.d,[(i:Int)]⟩:=by
 have k:i<(b01 ⟨W,H,[]⟩ r0).length:=by unfold flS at h;rwa[List.length_mapIdx]at h
 unfold flS
 simp[k]
theorem j2f{W H:Int}{i q:Nat}(hi:i<(flS W H).length):d0g (b9m (decide (q=i)) [.int .i64 ((b01 ⟨W,H,[]⟩ r0).getD i clR.d).x,.int .i64 ((b01 ⟨W,H,[]⟩ r0).getD i clR.d).y,.int .u8 ((b01 ⟨W,H,[]⟩ r0).getD i clR.d).q,.sl 1 1 (fun j=>(List.map (fun x:Nat×List SV=>x.snd) [(0,[SV.int .i64 (i:Int)])].reverse).getD j []) (some 1)] (c55 (flS W H) i q)) (c55 (flS W H) (i+1) q):=by
 by_cases e:q=i
 ·subst e
  rw[g2u (Nat.lt_succ_self _),g6p (Ln _),Jw rfl,f1e hi]
  right
  refine⟨rfl,rfl,rfl,⟨rfl,Fe,Ix,fun j hj=> ?_⟩,Ix⟩
  obtain rfl:j=0:=Dt
  rfl
 ·left
  rw[Jq e]
  by_cases h:q<i
  ·rw[g2u h,g2u Dt];rfl
  ·rw[g6p h,g6p Dt];rfl
theorem fl_lst{l:List Stk}:stR.lst l.length (c55 l l.length)=l:=by
 have e:stR.lst l.length (c55 l l.length)=stR.lst l.length (stR.row l):=by
  simp only[RT.lst]
  apply List.map_congr_left
  intro q hq
  rw[g77 Fk]
 rw[e,RT.lst_row]
theorem fl_is{l:List Stk}:stR.is l.length (c55 l l.length):=by
 intro q hq
 rw[g77 hq]
 exact stR.is_row l q hq
theorem g8c:stR.lst 0 (fun _=>[])=[]:=rfl
theorem fl_is0:stR.is 0 (fun _=>[]):=fun i hi=>absurd hi (Je i)
def flC(W H:Int):List Blk:=[.cells 23 [.int .i64 W,.int .i64 H],.cells 31 [.int .i64 0,.int .i64 0,.con (.slice none 0 0),.int .u8 0,.int .i64 0,.int .i64 0,.con (.slice none 0 0)],.cells 26 [.int .i64 W,.int .i64 H,.sl 3 0 (b20 []) none]]
abbrev c56:FuncId:=7
def d6g:Kon
 | [.agg [.int .i64 W,.int .i64 H]]=>some (b0e W H=0→b0w ⟨W,H,[]⟩ r0=0→b67 (flS W H),.tup [.agg (stC (flP W H) r0 (flL W H)),.int .i64 (flE W H)])
 |_=>none
def j14:Fam:=⟨Int×Int,fun(W,H)=>[.agg [.int .i64 W,.int .i64 H]],fun(W,H)=>b0e W H=0→b0w ⟨W,H,[]⟩ r0=0→b67 (flS W H),fun(W,H)=>.tup [.agg (stC (flP W H) r0 (flL W H)),.int .i64 (flE W H)]⟩
def j4m:Int×Int→Nat→Option Inv
 |(W,H),9=>some {β:=Nat,ok:=fun i=>i≤(flS W H).length,st:=fun i=>⟨[⟨34,none,.int .i64 i⟩,⟨33,none,.int .i64 (flS W H).length⟩,⟨32,none,.sl 3 (b01 ⟨W,H,[]⟩ r0).length (clR.row (b01 ⟨W,H,[]⟩ r0)) none⟩,⟨7,none,.osl 3⟩,⟨4,none,.own 2 0⟩,⟨2,none,.own 1 0⟩],flC W H++[.row 71 4 (flS W H).length (c55 (flS W H) i) (some (flS W H).length)]⟩,μ:=fun i=>(flS W H).length-i}
 |_,_=>none
theorem g0w:PS c56 d6g:=by
 refine f04 {l:=[(g8r,f0s),(d3v,c2d),(c2w,b9y),(f4k,d4s)],fz:=fun d=>Nat.beq d 49,gr:=fun id=>bif Nat.beq id 11 then [.fz 5,.flat 3]else(bif Nat.beq id 13 then [.orders]else [])} ⟨by simpa using⟨pEmpty,f9n,c7g,pOver⟩,Dv,Dv⟩ j14 j4m d6g ?_ ?_ Go.Proofs.Tryz.func7 Du Du Du ?_
 ·intro args pre s h hp
  unfold d6g at h
  split at h
  ·rename_i W H
   cases h
   exact Dp
  ·cases h
 ·exact Bu
 ·rintro⟨W,H⟩ hp
  replace hp:b0e W H=0→b0w ⟨W,H,[]⟩ r0=0→b67 (flS W H):=hp
  have k0:b0e W H=0→f06 W H=⟨W,H,[]⟩:=fun h=>by unfold f06 keep;rw[if_pos h,if_pos h]
  have kl:(flS W H).length=(b01 ⟨W,H,[]⟩ r0).length:=by unfold flS;rw[List.length_mapIdx]
  by_cases hs:b0e W H=0
  ·have k1:=k0 hs
   by_cases hb:b0w ⟨W,H,[]⟩ r0=0
   ·have hO:=hp hs hb
    have hl:=hO.2.1
    have hE:flE W H=0:=by unfold flE;rw[if_pos hs,hb]
    have hP:flP W H=⟨W,H,[]⟩:=by unfold flP;rw[if_pos hE]
    have hL:flL W H=ovS (flS W H):=by unfold flL;rw[if_pos hE]
    refine wlk _ ?_;(repeat' first|constructor|refine Iu fun hu=> ?_|intro h);all_goals refine Lm ?_
    all_goals(try simp only[b00,I9,Ie,k1]at*)
    all_goals(try first
     |exact B6
     |exact absurd hb Dx
     |(refine⟨⟨⟨b09 _,by show 0≤100000;omega⟩,fun c hc=>Ff⟩,Dt,Dt⟩)
     |(rw[show (⟨0,0,0⟩:Mv)=r0 from rfl,←kl];refine⟨Dt,Dt,?_,Dt⟩;exact c34 Du Dt Dt))
    refine⟨(0:Nat),J5 _,?_,?_⟩
    ·refine wln _ ?_;(repeat' first|constructor|refine Iu fun hu=> ?_|intro h);all_goals refine Lm ?_
     all_goals(try simp only[kl,show (⟨0,0,0⟩:Mv)=r0 from rfl])
     all_goals first|exact Av|(intro q _;exact .inl (by rw[g6p (Je _)];rfl))|exact Ad|rfl|skip
    ·intro i hi
     replace hi:i≤(flS W H).length:=hi
     by_cases h9:i<(flS W H).length
     ·refine wln _ ?_;(repeat' first|constructor|refine Iu fun hu=> ?_|intro h);all_goals refine Lm ?_
      all_goals(try simp only[I8]at*)
      all_goals(try first
       |(exfalso;omega)
       |exact An
       |exact Au)
      refine⟨i+1,Ed,E6,?_⟩
      all_goals refine wln _ ?_;(repeat' first|constructor|refine Iu fun hu=> ?_|intro h);all_goals refine Lm ?_
      all_goals(try simp only[J7])
      all_goals first
       |omega
       |exact fun _ _=>j2f Dt
       |exact Ad
       |rfl
       |skip
     ·obtain rfl:i=(flS W H).length:=Dt
      refine wln _ ?_;(repeat' first|constructor|refine Iu fun hu=> ?_|intro h);all_goals refine Lm ?_
      all_goals(try simp only[I8,fl_lst,g8c,List.nil_append,hP,hL]at*)
      all_goals(try first
       |(exfalso;omega)
       |omega
       |rfl
       |exact Ad
       |exact⟨⟨⟨fl_is0,Dt,fun s hs=>by cases hs⟩,fl_is,hl,fun s hs=>(hO.2.2.1 s hs).2.2⟩,hO⟩
       |exact hE.symm)
   ·have hE:flE W H=b0w ⟨W,H,[]⟩ r0:=by unfold flE;rw[if_pos hs]
    have hP:flP W H=⟨0,0,[]⟩:=by unfold flP;rw[if_neg (by rw[hE];exact hb)]
    have hL:flL W H=[]:=by unfold flL;rw[if_neg (by rw[hE];exact hb)]
    refine wlk _ ?_;(repeat' first|constructor|refine Iu fun hu=> ?_|intro h);all_goals refine Lm ?_
    all_goals(try simp only[b00,I9,Ie,k1]at*)
    all_goals(first
     |exact B6
     |exact absurd Dx hb
     |(refine⟨⟨⟨b09 _,by show 0≤100000;omega⟩,fun c hc=>Ff⟩,Dt,Dt⟩)
     |(rw[hP];done)
     |(rw[hP];rfl)
     |(rw[hL];rfl)
     |exact hE.symm
     |rfl
     |skip)
  ·have hE:flE W H=b0e W H:=by unfold flE;rw[if_neg hs]
   have hP:flP W H=⟨0,0,[]⟩:=by unfold flP;rw[if_neg (by rw[hE];exact hs)]
   have hL:flL W H=[]:=by unfold flL;rw[if_neg (by rw[hE];exact hs)]
   refine wlk _ ?_;(repeat' first|constructor|refine Iu fun hu=> ?_|intro h);all_goals refine Lm ?_
   all_goals(try simp only[b00,I9,Ie]at*)
   all_goals(first
    |exact B6
    |(rw[hP];done)
    |(rw[hP];rfl)
    |(rw[hL];rfl)
    |exact hE.symm
    |rfl
    |skip)
theorem g7v{L:List Stk}{nA:Nat}(hA:∀i j,i<j→j<nA→j<L.length→(L.getD i stR.d).c≠(L.getD j stR.d).c):∀i,i≤L.length→∀o∈oF L i,
 ((o.2=true∧o.1∈L)∨(o.2=false∧∃j,nA≤j∧j<i∧(L.getD j stR.d).c=o.1.c))∧∃j,j<i∧(L.getD j stR.d).c=o.1.c
 |0,_=>by simp[oF]
 |i+1,h=>by
  intro o ho
  have ih:=g7v hA i Dt
  have up:∀o∈oF L i,((o.2=true∧o.1∈L)∨(o.2=false∧∃j,nA≤j∧j<i+1∧(L.getD j stR.d).c=o.1.c))∧∃j,j<i+1∧(L.getD j stR.d).c=o.1.c:=by
   intro o ho
   obtain⟨h1,j,h2,h3⟩:=ih o ho
   refine⟨?_,j,Dt,h3⟩
   rcases h1 with h1|⟨e,j,a,b,c⟩
   ·exact .inl h1
   ·exact .inr ⟨e,j,a,Dt,c⟩
  rw[c0h Dt]at ho
  cases hf:fnd (oF L i) (clQ (L.getD i stR.d).c)with
  |some k=>
   obtain⟨hk,hq⟩:=b7e hf
   rw[b8k hf]at ho
   rcases Lb ho with ho|rfl
   ·exact up o ho
   ·have hn:nA≤i:=by
     rcases M5 i nA with h9|qj
     ·obtain⟨_,j,h2,h3⟩:=ih _ (b0c (d:=dO) hk)
      exact absurd (h3.trans (d7n hq)) (hA j i h2 h9 Dt)
     ·exact qj
    exact⟨.inr ⟨rfl,i,hn,Dt,rfl⟩,i,Dt,rfl⟩
  |none=>
   rw[b61 hf]at ho
   rcases Jf.1 ho with ho|ho
   ·exact up o ho
   ·simp only[Jk]at ho
    subst ho
    exact⟨.inl ⟨rfl,b0c Dt⟩,i,Dt,rfl⟩
theorem f2j{L:List Stk}{nA:Nat}(h0:0<L.length)(hl:L.length≤100000)(hs:∀s∈L,inK .u8 s.c.q∧s.l≠[]∧s.l.length≤50000)
 (hA:∀i j,i<j→j<nA→j<L.length→(L.getD i stR.d).c≠(L.getD j stR.d).c) (hB:∀i j,nA≤i→i<j→j<L.length→(L.getD i stR.d).c≠(L.getD j stR.d).c):b67 L:=by
 refine⟨h0,hl,fun s h=>⟨(hs s h).1,(hs s h).2.1,by have:=(hs s h).2.2;omega⟩,fun i k hi hf=> ?_⟩
 obtain⟨hk,hq⟩:=b7e hf
 obtain⟨h1,_⟩:=g7v hA i Dt _ (b0c (d:=dO) hk)
 rcases h1 with⟨e,hm⟩|⟨_,j,a,b,c⟩
 ·refine⟨e,?_⟩
  have a1:=(hs _ hm).2.2
  have a2:=(hs _ (b0c (d:=stR.d) hi)).2.2
  omega
 ·exact absurd (c.trans (d7n hq)) (hB j i a b hi)
theorem f2b{A:List Stk}(h:(A.map (·.c)).Nodup):∀i j,i<j→j<A.length→(A.getD i stR.d).c≠(A.getD j stR.d).c:=by
 intro i j dj hj
 have:=K8.1 h i j (by rw[Js];omega) (by rw[Js];omega) dj
 simp only[List.getElem_map]at this
 rw[It,It,Iv hj,Iv (show i<A.length from Dt)]
 exact this
theorem g8t{A B:List Stk}(h0:0<A.length+B.length)(hl:A.length+B.length≤100000)(hs:∀s∈A++B,inK .u8 s.c.q∧s.l≠[]∧s.l.length≤50000)
 (hA:(A.map (·.c)).Nodup) (hB:(B.map (·.c)).Nodup):b67 (A++B):=by
 have ga:∀i,i<A.length→(A++B).getD i stR.d=A.getD i stR.d:=fun i hi=>by
  rw[It,J6 hi,It]
 have gb:∀i,A.length≤i→(A++B).getD i stR.d=B.getD (i-A.length) stR.d:=fun i hi=>by
  rw[It,Jr hi,It]
 refine f2j (nA:=A.length) (by rwa[Jj]) (by rwa[Jj]) hs (fun i j h1 h2 _=> ?_) (fun i j h1 h2 h3=> ?_)
 ·rw[ga i Dt,ga j h2]
  exact f2b hA i j h1 h2
 ·rw[Jj]at h3
  rw[gb i h1,gb j Dt]
  exact f2b hB _ _ Dt Dt
theorem g6y{W H:Int}{has:List Int→Bool}{s s':BS}{i e:Int}(hn:∀q,has q=false)(h:c06 W H has s i e=some s')(hr:∀m∈s.out,m=mvR.d):∀m∈s'.out,m=mvR.d:=by
 have N4:b1c W H has (s.out.getD i.toNat mvR.d) i e=mvR.d:=by
  unfold b1c
  rw[hn,cond_false,It]
  cases hg:s.out[i.toNat]? with
  |none=>rfl
  |some m=>exact hr m (J0 hg)
 unfold c06 at h
 split at h
 ·simp only at h
  split at h
  ·cases h
   cases s.kn.getD (b03 W H i e).toNat false with
   |true=>exact hr
   |false=>
    simp only[cond_false]
    exact c2u (q:=fun m=>m=mvR.d) hr N4
  ·cases h
 ·cases h;exact hr
theorem f2i{W H:Int}{has:List Int→Bool}{i:Int}(hn:∀q,has q=false):∀(l:List Int) {s s':BS},c2s W H has i l s=some s'→(∀m∈s.out,m=mvR.d)→∀m∈s'.out,m=mvR.d
 | [],s,s',h,hr=>by cases h;exact hr
 |e::l,s,s',h,hr=>by
  simp only[c2s,J3]at h
  obtain⟨s1,h1,h2⟩:=h
  exact f2i hn l h2 (g6y hn h1 hr)
theorem g80{W H:Int}{has:List Int→Bool}(hn:∀q,has q=false):∀(f:Nat) {s:BS} {l:List Mv},bfs W H has f s=some l→(∀m∈s.out,m=mvR.d)→∀m∈l,m=mvR.d
 |0,s,l,h,hr=>by
  simp only[bfs]at h
  split at h<;>cases h
  exact hr
 |f+1,s,l,h,hr=>by
  simp only[bfs]at h
  split at h
  ·cases h;exact hr
  ·simp only[J3]at h
   obtain⟨s1,h1,h2⟩:=h
   exact g80 hn f h2 (f2i hn _ h1 (s:=⟨s.out,s.kn,_⟩) hr)
theorem g66{W H:Int}:∀m∈b1y ⟨W,H,[]⟩,m=mvR.d:=by
 unfold b1y
 cases h:f5a ⟨W,H,[]⟩with
 |none=>simp
 |some l=>
  refine g80 (fun q=>rfl) _ h (fun m hm=> ?_)
  exact(List.mem_replicate.1 hm).2
theorem g6g{W H i j:Int}(hs:b0e W H=0)(h0:0≤i)(h:i<4*W*H)(k0:0≤j)(k:j<4*W*H)(e:b02 W H i=b02 W H j):i=j:=by
 rw[b58 hs h0 h,b58 hs k0 k]at e
 simp only[Cl.mk.injEq]at e
 obtain⟨e1,e2,e3⟩:=e
 have a:=Int.mul_ediv_add_emod (i/4) W
 have b:=Int.mul_ediv_add_emod (j/4) W
 rw[e1,e2]at a
 omega
theorem f46{W H:Int}(hs:b0e W H=0)(hb:b0w ⟨W,H,[]⟩ r0=0):(b01 ⟨W,H,[]⟩ r0).Nodup:=by
 have P:=b6u (p:=⟨W,H,[]⟩) (r:=r0) Dy hb
 have hN:=b1b hs
 have t5:(b01 ⟨W,H,[]⟩ r0).length=nOf W H:=P.il
 have hrl:=(b50 hb).1
 have fm:(b0b ⟨W,H,[]⟩ r0).length=nOf W H:=P.pl
 have one:∀i:Nat,i<nOf W H→(b0b ⟨W,H,[]⟩ r0).getD i mvR.d=b6v mvR.d r0:=fun i hi=>by
  rw[(b50 hb).2 i Dt]
  unfold boP
  rw[g66 _ (b0c (d:=mvR.d) (show i<(b1y ⟨W,H,[]⟩).length from Dt))]
 refine K8.2 fun i j hi hj dj e=> ?_
 have gi:=P.im i (by show i<nOf W H;omega)
 have gj:=P.im j (by show j<nOf W H;omega)
 rw[It,Iv hi,K6,one i Dt]at gi
 rw[It,Iv hj,K6,one j Dt]at gj
 have vm:=P.vm 0 (by show 0<nOf W H;omega)
 rw[one 0 Dt]at vm
 have e2:=gi.1.symm.trans (e.trans gj.1)
 have ci:=b3y hs (i:=(i:Int)) Dt Dt
 have cj:=b3y hs (i:=(j:Int)) Dt Dt
 have vi:=vC_in (c:=b02 W H i) hs Dt Dt Dt
 have vj:=vC_in (c:=b02 W H j) hs Dt Dt Dt
 have:=g6g hs Dt Dt Dt Dt (d7z vm vi vj e2)
 omega
theorem d9f{W H:Int}(hs:b0e W H=0)(hb:b0w ⟨W,H,[]⟩ r0=0):b67 (flS W H):=by
 have P:=b6u (p:=⟨W,H,[]⟩) (r:=r0) Dy hb
 have hN:=b1b hs
 have t5:(b01 ⟨W,H,[]⟩ r0).length=nOf W H:=P.il
 have kl:(flS W H).length=(b01 ⟨W,H,[]⟩ r0).length:=by unfold flS;rw[List.length_mapIdx]
 have hd:=f46 hs hb
 have nd:∀i j,i<j→j<(flS W H).length→((flS W H).getD i stR.d).c≠((flS W H).getD j stR.d).c:=fun i j dj hj e=>by
  rw[f1e hj,f1e (show i<(flS W H).length from Dt)]at e
  have:=K8.1 hd i j Dt Dt dj
  apply this
  simpa[It,Iv (show i<(b01 ⟨W,H,[]⟩ r0).length from Dt),Iv (show j<(b01 ⟨W,H,[]⟩ r0).length from Dt)]using e
 refine f2j (nA:=(flS W H).length) Dt Dt (fun s hm=> ?_) (fun i j h1 h2 h3=>nd i j h1 h3) (fun i j h1 h2 h3=>nd i j h2 h3)
 obtain⟨i,hi,rfl⟩:=b2v (d:=stR.d) hm
 rw[f1e hi]
 have:=(P.im i (by show i<nOf W H;omega)).2.2.2
 refine⟨Ez,Dv,Dv⟩
def c2e:Kon
 | [.agg [.int .i64 W,.int .i64 H]]=>some (True,.tup [.agg (stC (flP W H) r0 (flL W H)),.int .i64 (flE W H)])
 |_=>none
theorem c9z:PS c56 c2e:=by
 refine⟨g0w.1,fun A w args vals pre s hA hg hD hk hp=> ?_⟩
 unfold c2e at hk
 split at hk
 ·rename_i W H
  cases hk
  exact g0w.2 A w _ vals _ _ hA hg hD rfl (fun h1 h2=>d9f h1 h2)
 ·cases hk
theorem g9i{k C:Int}(h:b08 k C=0):vM (b5k k C)∧0≤(b5k k C).t∧(b5k k C).t≤255:=by
 have hk:(1≤k∧k≤4)∧ -4096≤C∧C≤4096:=by
  unfold b08 at h
  split at h
  ·omega
  ·cases h
 have h4:k=1∨k=2∨k=3∨k=4:=Dt
 rcases h4 with rfl|rfl|rfl|rfl
 ·obtain⟨e,v⟩:=j55 hk.2;rw[e];exact⟨v,by show (0:Int)≤4;omega,by show (4:Int)≤255;omega⟩
 ·obtain⟨e,v⟩:=j45 hk.2;rw[e];exact⟨v,by show (0:Int)≤6;omega,by show (6:Int)≤255;omega⟩
 ·obtain⟨e,v⟩:=ref_u hk.2;rw[e];exact⟨v,by show (0:Int)≤5;omega,by show (5:Int)≤255;omega⟩
 ·obtain⟨e,v⟩:=ref_d hk.2;rw[e];exact⟨v,by show (0:Int)≤7;omega,by show (7:Int)≤255;omega⟩
theorem d19:∀(n:Nat) (l:List Int),l.Nodup→(∀v∈l,0≤v∧v<n)→l.length≤n
 |0,l,_,h=>by
  cases l with
  |nil=>exact J2 _
  |cons v l=>have:=h v (Kp ..);omega
 |n+1,l,hd,h=>by
  by_cases hm:(n:Int)∈l
  ·have h1:=List.length_erase_of_mem hm
   have h2:=d19 n (l.erase (n:Int)) (hd.erase _) fun v hv=>by
    have a:=h v (List.mem_of_mem_erase hv)
    have b:v≠n:=fun e=>by rw[e]at hv;exact hd.not_mem_erase hv
    omega
   omega
  ·have h2:=d19 n l hd fun v hv=>by
    have a:=h v hv
    have b:v≠n:=fun e=>by rw[e]at hv;exact hm hv
    omega
   omega
section
variable {p : Pt} {r : Mv} {L : List Stk}
theorem d6u(S:SkOK p r L):(L.map (·.c)).Nodup:=by
 refine L9.2 (K8.2 fun i j hi hj dj e=> ?_)
 have h:=S.lt i j dj hj
 rw[It,It,Iv hi,Iv hj,K6,K6,e,b4x]at h
 omega
theorem f5y(S:SkOK p r L):(b0j L).length≤1024:=by
 have hN:=b1b S.hs
 have:=d19 (nOf p.W p.H) (b0j L) S.nd fun v hv=>by have:=S.rg v hv;omega
 omega
theorem j3r(S:SkOK p r L):0<L.length:=by
 have hN:=b1b S.hs
 have:=S.all 0 Dt Dt
 cases L with
 |nil=>simp[b0j]at this
 |cons _ _=>simp
end
def doX(k C s:Int)(L:List Stk):Int:=smE (b5k k C) ((b1q k C s L).map b5j)
def doV(k C s:Int)(L:List Stk):List Stk:=c89 (b5k k C) ((b1q k C s L).map b5j)
def doL(k C s:Int)(o:Bool)(L:List Stk):List Stk:=if o=true then ovS (b1q k C (1-s) L++doV k C s L)else ovS (doV k C s L++b1q k C (1-s) L)
structure DoOK (k C s:Int) (L:List Stk):Prop where
 spl:f8i k C L=0
 skA:b2y (b1q k C (1-s) L)
 skB:b2y (b1q k C s L)
 skR:b2y ((b1q k C s L).map b5j)∧∀t∈(b1q k C s L).map b5j,inK .u8 t.c.q
 ov:doX k C s L=0→b2y (doV k C s L)∧b67 (b1q k C (1-s) L++doV k C s L)∧b67 (doV k C s L++b1q k C (1-s) L)∧∀o,b2b (doL k C s o L)
theorem g1s(k C:Int):∀(L:List Stk),(b1q k C 0 L).length+(b1q k C 1 L).length=L.length
 | []=>rfl
 |t::L=>by
  have ih:=g1s k C L
  unfold b1q at ih⊢
  rcases g9h k C t with e|e
  ·rw[List.filter_cons_of_pos (by rw[e];rfl),List.filter_cons_of_neg Fa]
   simp only[K3];omega
  ·rw[List.filter_cons_of_neg Fa,List.filter_cons_of_pos (by rw[e];rfl)]
   simp only[K3];omega
theorem do_ok{p:Pt}{r:Mv}{L:List Stk}{k C s:Int}(S:SkOK p r L)(bm:b2b L)(hl:b08 k C=0)(hs:s=0∨s=1):DoOK k C s L:=by
 obtain⟨hm,ht⟩:=g9i hl
 have dq:=f5y S
 have hL0:=j3r S
 have d9:∀t∈L,inK .u8 t.c.q∧t.l≠[]∧t.l.length≤1024:=fun t h=>by
  have h1:=S.vc t h
  unfold vC at h1
  have:=c51 L t h
  exact⟨Ez,S.ne t h,Dt⟩
 have sub:∀d,(b1q k C d L).Sublist L:=fun d=>List.filter_sublist
 have sk:∀d,b2y (b1q k C d L):=fun d=>⟨by have:=(sub d).length_le;have:=bm.1.1;omega,fun t h=>bm.1.2 t ((sub d).subset h)⟩
 have fk:∀d,((b1q k C d L).map (·.c)).Nodup:=fun d=>((sub d).map _).nodup (d6u S)
 refine⟨f0c hl fun j hj=> ?_,sk _,sk _,⟨⟨by rw[Js];exact(sk s).1,fun t h=> ?_⟩,fun t h=> ?_⟩,fun hX=> ?_⟩
 ·have h1:=S.vc _ (b0c (d:=stR.d) hj)
  unfold vC at h1
  unfold csR c42
  rw[Iw ⟨by unfold b0q;rw[if_pos Dt],hl⟩]
 ·obtain⟨u,hu,rfl⟩:=Ja.1 h
  simp only[b5j,List.length_reverse]
  exact(sk s).2 u hu
 ·obtain⟨u,hu,rfl⟩:=Ja.1 h
  exact(d9 u ((sub s).subset hu)).1
 have hV:(doV k C s L).Perm (((b1q k C s L).map b5j).map (mvS (b5k k C))):=by
  unfold doV c89
  rw[Iw (show smE (b5k k C) ((b1q k C s L).map b5j)=0 from hX)]
  exact(c60 _).3
 have hVm:∀t∈doV k C s L,∃u∈b1q k C s L,t=mvS (b5k k C) (b5j u):=fun t h=>by
  obtain⟨v,hv,e⟩:=Ja.1 (hV.mem_iff.1 h)
  obtain⟨u,hu,rfl⟩:=Ja.1 hv
  exact⟨u,hu,e.symm⟩
 have hVl:(doV k C s L).length=(b1q k C s L).length:=by rw[hV.length_eq,Js,Js]
 have Qt:((doV k C s L).map (·.c)).Nodup:=by
  refine(hV.map (·.c)).nodup_iff.2 ?_
  rw[M6,M6]
  refine L9.2 ((L9.1 (fk s)).imp_of_mem fun {a b} ha hb bb e=>bb ?_)
  exact d7z hm (S.vc a ((sub s).subset ha)) (S.vc b ((sub s).subset hb)) e
 have Qu:∀t∈doV k C s L,inK .u8 t.c.q∧t.l≠[]∧t.l.length≤1024:=fun t h=>by
  obtain⟨u,hu,rfl⟩:=hVm t h
  have:=d9 u ((sub s).subset hu)
  exact⟨g8e _ _,by simp[mvS,b5j,this.2.1],by simpa[mvS,b5j]using this.2.2⟩
 have hVf:(b0j (doV k C s L)).length≤(b0j L).length:=by
  rw[d4f hV,f2g (f:=mvS (b5k k C)) (fun _=>rfl),f2g (f:=b5j) (fun t=>by simp[b5j])]
  exact f0q (sub s)
 have hAf:=f0q (sub (1-s))
 have b8:(b1q k C (1-s) L).length+(b1q k C s L).length=L.length:=by
  have:=g1s k C L
  rcases hs with rfl|rfl
  ·simp only[Int.sub_zero];omega
  ·simp only[Int.sub_self];omega
 have hLb:=bm.1.1
 have all:∀t,t∈b1q k C (1-s) L∨t∈doV k C s L→inK .u8 t.c.q∧t.l≠[]∧t.l.length≤50000:=fun t h=>by
  rcases h with h|h
  ·have:=d9 t ((sub _).subset h);exact⟨this.1,this.2.1,Dt⟩
  ·have:=Qu t h;exact⟨this.1,this.2.1,Dt⟩
 have o1:b67 (b1q k C (1-s) L++doV k C s L):=g8t Dt Dt (fun t h=>all t (Jf.1 h)) (fk _) Qt
 have o2:b67 (doV k C s L++b1q k C (1-s) L):=g8t Dt Dt (fun t h=>all t (Jf.1 h).symm) Qt (fk _)
 refine⟨⟨Dt,fun t h=>by have:=(Qu t h).2.2;omega⟩,o1,o2,fun o=> ?_⟩
 unfold doL
 split
 ·exact j3u o1 (by rw[c93];omega)
 ·exact j3u o2 (by rw[c93];omega)
abbrev Fd:=Int×Int×Int×Bool
def fdR:RT Fd:=⟨4,fun x=>[.int .u8 x.1,.int .i64 x.2.1,.int .u8 x.2.2.1,.bool x.2.2.2],fun l=>match l with
 | [.int _ a,.int _ b,.int _ c,.bool d]=>(a,b,c,d)
 |_=>(0,0,0,false),(0,0,0,false),fun _=>rfl⟩
def fd4(x:Int×Int):List Fd:=[(x.1,x.2,0,false),(x.1,x.2,0,true),(x.1,x.2,1,false),(x.1,x.2,1,true)]
def fdL(l:List (Int×Int)):List Fd:=l.flatMap fd4
theorem g15(l:List (Int×Int)):(fdL l).length=4*l.length:=by
 induction l with
 |nil=>rfl
 |cons x l ih=>
  have e:(fdL (x::l)).length=4+(fdL l).length:=by simp[fdL,fd4];omega
  rw[e,ih,K3];omega
theorem g5u{l:List (Int×Int)}{i:Nat}(h:i<l.length):fdL (l.take (i+1))=fdL (l.take i)++fd4 (l.getD i lnR.d):=by
 rw[b0u (d:=lnR.d) h];unfold fdL;rw[List.flatMap_append];simp
theorem fd_app{A:List Fd}{x:Int×Int}{n:Nat}(hn:A.length=n):∀j,j<n+1+1+1+1→(if j<n+1+1+1 then if j<n+1+1 then if j<n+1 then if j<n then fdR.row A j else(List.map (fun x:Nat×List SV=>x.snd) [(0,[SV.int .u8 x.1,SV.int .i64 x.2,SV.int .u8 0,SV.bool false])].reverse).getD (j-n) []else(List.map (fun x:Nat×List SV=>x.snd) [(0,[SV.int .u8 x.1,SV.int .i64 x.2,SV.int .u8 0,SV.bool true])].reverse).getD (j-(n+1)) []else(List.map (fun x:Nat×List SV=>x.snd) [(0,[SV.int .u8 x.1,SV.int .i64 x.2,SV.int .u8 (0+1),SV.bool false])].reverse).getD (j-(n+1+1)) []else(List.map (fun x:Nat×List SV=>x.snd) [(0,[SV.int .u8 x.1,SV.int .i64 x.2,SV.int .u8 (0+1),SV.bool true])].reverse).getD (j-(n+1+1+1)) [])=fdR.row (A++fd4 x) j:=by
 intro j hj
 subst hn
 have hr:∀t,(A++fd4 x).getD (A.length+t) fdR.d=(fd4 x).getD t fdR.d:=fun t=>by
  rw[It,Jr Dt,Nat.add_sub_cancel_left,It]
 by_cases h0:j<A.length
 ·rw[Iw Dt,Iw Dt,Iw Dt,Iw h0]
  simp[RT.row,J6 h0]
 ·have hc:j=A.length+0∨j=A.length+1∨j=A.length+2∨j=A.length+3:=Dt
  unfold RT.row
  rcases hc with rfl|rfl|rfl|rfl
  ·rw[Iw Dt,Iw Dt,Iw Dt,Iy Dt,hr,Nat.add_sub_cancel_left];rfl
  ·rw[Iw Dt,Iw Dt,Iy Dt,hr,Lv];rfl
  ·rw[Iw Dt,Iy Dt,hr,show A.length+2-(A.length+1+1)=0 from Dt];rfl
  ·rw[Iy Dt,hr,show A.length+3-(A.length+1+1+1)=0 from Dt];rfl
theorem lnL_le{p:Pt}{r:Mv}:(lnL p r).length≤3*(cnt p.W p.H).toNat:=by
 unfold lnL
 have h1:=(f1t (b2d c28 (lnF p (b01 p r) (b06 p.W p.H)))).1
 have h2:=b6s p.W p.H
 have h3:=@g7z p (b01 p r) (b06 p.W p.H) (b06 p.W p.H).length
 rw[Kq]at h3
 rw[b0p]at h1
 omega
def g7d(p:Pt)(r:Mv)(L:List Stk):SV:=.tup [.sl 4 (zL (b1j p r L) (fdL (lnL p r))).length (fdR.row (zL (b1j p r L) (fdL (lnL p r)))) none,.int .i64 (b1j p r L)]
abbrev g8u:FuncId:=42
def f0w:Kon
 | [x]=>(b3z x).map fun q=>(q.1,g7d q.2.1 q.2.2.1 q.2.2.2)
 |_=>none
def FFolds:Fam:=⟨Pt×Mv×List Stk,fun(p,r,L)=>[.agg (stC p r L)],fun(p,r,L)=>b5n p r∧b2b L,fun(p,r,L)=>g7d p r L⟩
def IFolds:Pt×Mv×List Stk→Nat→Option Inv
 |(p,r,L),6=>some {β:=Nat,ok:=fun i=>i≤(lnL p r).length,st:=fun i=>⟨[⟨26,none,.int .i64 i⟩,⟨25,none,.int .i64 (lnL p r).length⟩,⟨24,none,.sl 2 (lnL p r).length (lnR.row (lnL p r)) none⟩,⟨6,none,.osl 1⟩],[.cells 31 (stC p r L),.row 106 4 (4*i) (fdR.row (fdL ((lnL p r).take i))) none]⟩,μ:=fun i=>(lnL p r).length-i}
 |_,9=>some (.unroll 3)
 |_,12=>some (.unroll 3)
 |_,_=>none
theorem pFolds:PS g8u f0w:=by
 refine con [(g9d,f12)] (by simpa using pLines) FFolds IFolds f0w ?_ ?_ Go.Proofs.Tryz.func42 Du Du Du ?_
 ·intro args pre s h hp
  unfold f0w at h
  split at h
  ·rename_i x
   simp only[Ia]at h
   obtain⟨⟨q,p,r,L⟩,hx,rfl,rfl⟩:=h
   obtain⟨h1,h2,h3⟩:=b1n hx hp
   exact Ca
  ·cases h
 ·exact Bu
 ·rintro⟨p,r,L⟩ ⟨bc,bm⟩
  try dsimp only at bc bm
  by_cases hc:b1j p r L=0
  rotate_left
  ·refine wlk _ ?_;(repeat' first|constructor|refine Iu fun hu=> ?_|intro h);all_goals refine Lm ?_
   all_goals(try simp only[I8,b00,RT.lst_row,b0f,b0s,I9]at*)
   all_goals(first
    |exact A7
    |(simp[zL,hc];done)
    |rfl
    |skip)
  have hb:b0w p r=0:=(c0s (c2g hc)).1
  have hs:=(b0r (b54 hb).1).1
  have hN:=b1b hs
  have qf:cnt p.W p.H=4*p.W*p.H:=Fx
  have gv:=@lnL_le p r
  have hZ:zL (b1j p r L) (lnL p r)=lnL p r:=Iw hc
  all_goals refine wlk _ ?_;(repeat' first|constructor|refine Iu fun hu=> ?_|intro h);all_goals refine Lm ?_
  all_goals(try simp only[I8,b00,RT.lst_row,b0f,b0s,I9,hZ]at*)
  all_goals(try first
   |exact A7
   |exact A4
   |(refine⟨Dt,Dt,c34 Du Dt Dt,Dt⟩))
  all_goals
   refine⟨(0:Nat),J5 _,?_,?_⟩
   ·refine wlk _ ?_;(repeat' first|constructor|refine Iu fun hu=> ?_|intro h);all_goals refine Lm ?_
    all_goals first|exact A2|exact Ag|skip
   ·intro i hi
    replace hi:i≤(lnL p r).length:=hi
    have hF:=g15 ((lnL p r).take i)
    rw[List.length_take]at hF
    refine wlk _ ?_;(repeat' first|constructor|refine Iu fun hu=> ?_|intro h);all_goals refine Lm ?_
    all_goals(try simp only[I8]at*)
    all_goals(try first
     |exact B6
     |exact An
     |exact Aa)
    all_goals(try(show Int.toNat _<2;decide))
    ·have b7:i<(lnL p r).length:=Dt
     have hA:(fdL ((lnL p r).take i)).length=4*i:=Dt
     refine⟨i+1,Ed,E6,?_⟩
     simp only[g5u b7]
     refine wlk _ ?_;(repeat' first|constructor|refine Iu fun hu=> ?_|intro h);all_goals refine Lm ?_
     all_goals first|exact Aj|exact fd_app hA|skip
    all_goals
     have ei:i=(lnL p r).length:=Dt
     subst ei
     have b8:=g15 (lnL p r)
     simp only[Kq,zL,Iw hc]at*
     first
      |rfl
      |exact b8.symm
      |exact hc.symm
      |exact B2
      |exact B9
      |skip
def doU(k C:Int)(p:Pt)(r:Mv):List (Int×Int):=psF p (psS k C p r) (b06 p.W p.H)
def doRE(k C s:Int)(p:Pt)(r:Mv):Int:=if(psS k C p r).getD 0 b04.d=s then thE r.t r.x r.y (b5k k C).t (b5k k C).x (b5k k C).y else 0
def doR(k C s:Int)(p:Pt)(r:Mv):Mv:=if(psS k C p r).getD 0 b04.d=s then b6v r (b5k k C)else r
def doP(k C:Int)(o:Bool)(p:Pt)(r:Mv):Pt:=⟨p.W,p.H,g5g p (doU k C p r) (upL p r) o⟩
def doE(k C s:Int)(o:Bool)(p:Pt)(r:Mv)(L:List Stk):Int:=
 if¬b1j p r L=0 then b1j p r L else if¬b6x k C s=0 then b6x k C s else if¬psE k C p r=0 then psE k C p r else if(doU k C p r).length=0 then 7
 else if¬doX k C s L=0 then 3 else if¬doRE k C s p r=0 then 3 else if¬b1j (doP k C o p r) (doR k C s p r) (doL k C s o L)=0 then 3 else 0
theorem j4h{k C s:Int}(h:b6x k C s=0)(h0:0≤s):b08 k C=0∧(s=0∨s=1):=by
 unfold b6x at h
 split at h
 ·rename_i hh;exact⟨hh.1,Dt⟩
 ·cases h
structure DoIn (k C s:Int) (p:Pt) (r:Mv) (L:List Stk):Prop where
 S:SkOK p r L
 hl:b08 k C=0
 hs:s=0∨s=1
 vm:vM (b5k k C)∧0≤(b5k k C).t∧(b5k k C).t≤255
 D:DoOK k C s L
 pe:b0m p=0
 cr:∀o,g2q p (doU k C p r) (upL p r) o
 ul:(doU k C p r).length≤3072
 pl:p.l.length≤3072
 sd:(psS k C p r).length=nOf p.W p.H
 n0:4≤nOf p.W p.H∧nOf p.W p.H≤1024
theorem j0v{k C s:Int}{p:Pt}{r:Mv}{L:List Stk}(bc:b5n p r)(bm:b2b L)(hc:b1j p r L=0)(hf:b6x k C s=0)(h0:0≤s):DoIn k C s p r L:=by
 have S:=f3x (c2g hc) bc.2.1 bm.2.1
 obtain⟨hl,hs⟩:=j4h hf h0
 have hb:b0w p r=0:=(c0s (c2g hc)).1
 have ja:=(b54 hb).1
 have hN:=b1b S.hs
 have hC:=fun o=>@do_cr p r (psS k C p r) _ o ja bc.1.2 (g29 S)
 refine⟨S,hl,hs,g9i hl,do_ok S bm hl hs,ja,fun o=>(hC o).1,(hC true).2,f94 ja bc.1.2,?_,Dt⟩
 unfold psS
 rw[Js]
 exact S.P.il
theorem g8i{k C s:Int}{o:Bool}{p:Pt}{r:Mv}{L:List Stk}(bc:b5n p r)(I:DoIn k C s p r L)(hX:doX k C s L=0):b5n (doP k C o p r) (doR k C s p r)∧b2b (doL k C s o L):=by
 refine⟨⟨⟨?_,fun c hc=> ?_⟩,?_⟩,(I.D.ov hX).2.2.2 o⟩
 ·show (g5g _ _ _ _).length≤_
  unfold g5g d5z
  rw[b0p,Jj,Js]
  have:=I.ul
  have:=I.pl
  omega
 ·have:c∈d5z p (doU k C p r) (upL p r) o:=(b83 _ _ _).1 hc
  rcases Jf.1 this with h|h
  ·exact bc.1.2 c h
  ·obtain⟨u,hu,rfl⟩:=Ja.1 h
   have:=(c6b I.S.hs (Kg.1 hu).1).2.1
   simp only[mkC,inK]
   omega
 ·unfold doR
  split
  ·exact f0k bc.2.1 I.vm.2.1
  ·exact bc.2
def rDo(k C s:Int)(o:Bool)(p:Pt)(r:Mv)(L:List Stk):SV:=.tup [.agg (stC (zP (doE k C s o p r L) (doP k C o p r)) (zR (doE k C s o p r L) (doR k C s p r)) (zL (doE k C s o p r L) (doL k C s o L))),.int .i64 (doE k C s o p r L)]
theorem do_res{k C s:Int}{o:Bool}{p:Pt}{r:Mv}{L:List Stk}(bc:b5n p r)(bm:b2b L)(h0:0≤s):b5n (zP (doE k C s o p r L) (doP k C o p r)) (zR (doE k C s o p r L) (doR k C s p r))∧b2b (zL (doE k C s o p r L) (doL k C s o L)):=by
 by_cases e:doE k C s o p r L=0
 ·simp only[zP,zR,zL,Iw e]
  unfold doE at e
  split at e
  ·exact absurd e Dx
  ·rename_i h1
   split at e
   ·exact absurd e Dx
   ·rename_i h2
    split at e
    ·exact absurd e Dx
    ·split at e
     ·cases e
     ·split at e
      ·cases e
      ·rename_i h5
       exact g8i bc (j0v bc bm (Ly.1 h1) (Ly.1 h2) h0) (Ly.1 h5)
 ·simp only[zP,zR,zL,Iy e]
  exact⟨by unfold b5n;simp,by unfold b2b b2y;simp[b0j]⟩
theorem b2r{p:Pt}{r:Mv}{L:List Stk}(h1:b5n p r)(h2:b2b L):((d4p p.l.length (b20 p.l)∧p.l.length≤100000)∧(∀x∈p.l,inK .u8 x.e)∧0≤r.t∧r.t≤255)∧(stR.isL L.length (stR.row L)∧L.length≤100000∧∀s∈L,s.l.length≤100000)∧(∀x∈L,inK .u8 x.c.q)∧(b0j L).length≤100000:=
 ⟨⟨⟨b09 _,h1.1.1⟩,h1.1.2,h1.2⟩,b2i L h2.1,h2.2⟩
theorem d8x{p:Pt}{r:Mv}(h1:b5n p r):((d4p p.l.length (b20 p.l)∧p.l.length≤100000)∧∀c∈p.l,inK .u8 c.e)∧0≤r.t∧r.t≤255:=⟨⟨⟨b09 _,h1.1.1⟩,h1.1.2⟩,h1.2⟩
theorem d9w{A:List Stk}(h:b2y A):stR.isL A.length (stR.row A)∧A.length≤100000∧∀s∈A,s.l.length≤100000:=b2i A h
theorem b8a{A:List Stk}{P:Prop}(h:b2y A)(hP:P):(stR.isL A.length (stR.row A)∧A.length≤100000∧∀s∈A,s.l.length≤100000)∧P:=⟨b2i A h,hP⟩
theorem c3t{A B:List Stk}(h:b2y A)(k:b2y B)(o:b67 (A++B)):((stR.is A.length (stR.row A)∧A.length≤100000∧∀s∈A,s.l.length≤100000)∧stR.is B.length (stR.row B)∧B.length≤100000∧∀s∈B,s.l.length≤100000)∧b67 (A++B):=⟨⟨⟨RT.is_row stR A,h⟩,RT.is_row stR B,k⟩,o⟩
theorem d0i{p:Pt}{r:Mv}{l:List (Int×Int)}{P:Prop}(h1:b5n p r)(h:P):((d4p p.l.length (b20 p.l)∧p.l.length≤100000)∧unR.isL l.length (unR.row l))∧True∧P:=⟨⟨⟨b09 _,h1.1.1⟩,RT.isL_row unR l⟩,Ix,h⟩
abbrev nDo:FuncId:=37
def kDo:Kon
 | [x,.agg [.int .u8 k,.int .i64 C,.int .u8 s,.bool o]]=>(b3z x).map fun q=>(q.1∧0≤s,rDo k C s o q.2.1 q.2.2.1 q.2.2.2)
 |_=>none
def FDo:Fam:=⟨(Pt×Mv×List Stk)×(Int×Int×Int)×Bool,fun((p,r,L),(k,C,s),o)=>[.agg (stC p r L),.agg [.int .u8 k,.int .i64 C,.int .u8 s,.bool o]],fun((p,r,L),(_,_,s),_)=>(b5n p r∧b2b L)∧0≤s,fun((p,r,L),(k,C,s),o)=>rDo k C s o p r L⟩
abbrev CrdI:=(Pt×List (Int×Int))×List Bool×(Int×Int×Int)×Bool
def crdO:CrdI→List Blk
 |(_,up,(k,C,s),o)=>[.cells 91 [.sl 1 up.length (b1x.row up) none],.cells 106 [.int .u8 k,.int .i64 C,.int .u8 s,.bool o]]
def c5n:HK:=fun args own=>match args,own with
 | [x,y,.clo f [.own 0 0,.own 1 0]],[.cells T1 [.sl 1 n g _],.cells T2 [.int .u8 k,.int .i64 C,.int .u8 s,.bool o]]=>if f=nDo1∧T1=91∧T2=106 then(match c88 x,unR.as y with
   |some q,some v=>some ⟨(q.1∧unR.isL v.1 v.2)∧g=b1x.row (b1x.lst n g)∧g2q q.2 (unR.lst v.1 v.2) (b1x.lst n g) o,b6i ⟨q.2.W,q.2.H,g5g q.2 (unR.lst v.1 v.2) (b1x.lst n g) o⟩,[.cells 91 [.sl 1 (b1x.lst n g).length (b1x.row (b1x.lst n g)) none],.cells 106 [.int .u8 k,.int .i64 C,.int .u8 s,.bool o]],[]⟩
   |_,_=>none)else none
 |_,_=>none
def FHCrd:FamH:=⟨CrdI,fun((p,l),_)=>[b6i p,.sl 2 l.length (unR.row l) none,.clo nDo1 [.own 0 0,.own 1 0]],crdO,fun((p,l),up,_,o)=>g2q p l up o,fun((p,l),up,_,o)=>b6i ⟨p.W,p.H,g5g p l up o⟩,crdO,[]⟩
def IHCrd:CrdI→Nat→Option Inv
 |((p,l),up,(k,C,s),o),3=>some {β:=Nat,ok:=fun i=>i≤l.length,st:=fun i=>⟨[⟨18,none,.int .i64 i⟩,⟨17,none,.int .i64 l.length⟩,⟨16,none,.sl 2 l.length (unR.row l) none⟩,⟨7,none,.own 5 0⟩,⟨6,none,.own 3 0⟩,⟨2,none,.clo nDo1 [.own 0 0,.own 1 0]⟩],crdO ((p,l),up,(k,C,s),o)++[.cells 26 [.int .i64 p.W,.int .i64 p.H,.sl 3 p.l.length (b20 p.l) none],.cells 26 [.int .i64 0,.int .i64 0,.con (.slice none 0 0)],.row 50 3 (d5z p (l.take i) up o).length (crR.row (d5z p (l.take i) up o)) none,.cells 26 [.int .i64 p.W,.int .i64 p.H,.osl 4]]⟩,μ:=fun i=>l.length-i}
 |_,_=>none
theorem pHCrd:HS d32 c5n:=by
 refine c90 {l:=[(nDo1,kDo1),(c6n,b72)],fs:=[(c1x,c2f)],fsok:=by simpa using g06,x:=[(f8m,d0c)],h:=[(c1x,hVCl)]} ⟨by simpa using⟨pDo1,d7j⟩,by simpa using j33,by simpa using pVCl⟩ FHCrd IHCrd c5n ?_ ?_ ?_ Go.Proofs.Tryz.func71 Du Du Du ?_
 ·intro args own r h hp
  unfold c5n at h
  split at h
  ·rename_i x y f T1 n g cp T2 k C s o
   split at h
   ·rename_i hT
    obtain⟨rfl,rfl,rfl⟩:=hT
    split at h
    ·rename_i q v h1 h2
     cases h
     obtain⟨⟨bc,bm⟩,jb,qx⟩:=hp
     have hn:(b1x.lst n g).length=n:=RT.lst_length _ _ _
     generalize b1x.lst n g=up at*
     subst jb hn
     refine⟨((q.2,unR.lst v.1 v.2),up,(k,C,s),o),⟨(b44 h1 bc).1,b2p (unR.as_leL h2 bm),⟨rfl,rfl⟩,Ix⟩,rfl,?_,qx,rfl,rfl,rfl⟩
     refine⟨⟨Eg,?_,Ix⟩,⟨Eg,by simp[b24,SV.le0]⟩,Ix⟩
     cases cp<;>simp[SV.le0,b3q]<;>exact fun i _=>.inl rfl
    ·cases h
   ·cases h
  ·cases h
 ·exact Bw
 ·intro i;show 2≤2;decide
 ·rintro⟨⟨p,l⟩,up,⟨k,C,s⟩,o⟩ μ ⟨⟨bc,bm⟩,jb⟩
  refine wlk _ ?_;(repeat' first|constructor|refine Iu fun hu=> ?_|intro h);all_goals refine Lm ?_
  all_goals(try omega)
  refine⟨(0:Nat),J5 _,?_,?_⟩
  ·refine wlk _ ?_;(repeat' first|constructor|refine Iu fun hu=> ?_|intro h);all_goals refine Lm ?_
   all_goals first|exact A2|(simp[d5z];done)|(intro j hj;rw[show d5z p (List.take 0 l) up o=p.l by simp[d5z]];rfl)|skip
  ·intro i hi
   replace hi:i≤l.length:=hi
   have hv:i<l.length→0≤(l.getD i unR.d).1∧(l.getD i unR.d).1<up.length:=fun h=>bm _ (b0c h)
   have hA:=@g5x p l up o i hi
   refine wlk _ ?_;(repeat' first|constructor|refine Iu fun hu=> ?_|intro h);all_goals refine Lm ?_
   all_goals(try simp only[I8,RT.lst_row]at*)
   all_goals(try first
    |exact An
    |exact⟨⟨⟨rfl,Ix⟩,rfl⟩,hv Dt⟩
    |exact Bh
    |exact⟨⟨rfl,rfl⟩,hv Dt⟩
    |exact Bh
    |exact⟨⟨⟨rfl,rfl⟩,Ix⟩,hv Dt⟩
    |exact Aa)
   ·have b7:i<l.length:=Dt
    refine⟨i+1,Ed,E6,?_⟩
    simp only[f5t b7,Ig]
    refine wlk _ ?_;(repeat' first|constructor|refine Iu fun hu=> ?_|intro h);all_goals refine Lm ?_
    all_goals first|exact Aj|exact b43 (R:=crR) rfl|skip
   all_goals
    have ei:i=l.length:=Dt
    subst ei
    rw[Kq]at*
    first
     |exact⟨⟨RT.is_row crR _,Dt,jb⟩,fun _ _=>rfl⟩
     |exact⟨RT.is_row crR _,Dt,jb⟩
     |exact⟨Dt,fun _ _=>rfl⟩
     |exact(b0p _ _).symm
     |exact B2
     |exact B9
     |skip
def DoG(i:FDo.ι):Prop:=wpC (EX [(c1f,b8d),(c0z,b7i),(c57,c0k),(d62,d0j),(d4k,c64),(d5c,c5q),(c54,c0a),(d6r,d1z),(f4k,d4s),(nUp,kUp)] [] [(d32,c5n)] (fun _=>false) false (fun _=>[]) 0 (fun _=>true) (fun _=>none) []) (Go.Proofs.Tryz.f37).ntmps (fun _=>none) ((Go.Proofs.Tryz.f37).body.getD .skip) ⟨d60 (EX [(c1f,b8d),(c0z,b7i),(c57,c0k),(d62,d0j),(d4k,c64),(d5c,c5q),(c54,c0a),(d6r,d1z),(f4k,d4s),(nUp,kUp)] [] [(d32,c5n)] (fun _=>false) false (fun _=>[]) 0 (fun _=>true) (fun _=>none) []) Go.Proofs.Tryz.f37 (FDo.res i),fun _ _=>False,d60 (EX [(c1f,b8d),(c0z,b7i),(c57,c0k),(d62,d0j),(d4k,c64),(d5c,c5q),(c54,c0a),(d6r,d1z),(f4k,d4s),(nUp,kUp)] [] [(d32,c5n)] (fun _=>false) false (fun _=>[]) 0 (fun _=>true) (fun _=>none) []) Go.Proofs.Tryz.f37 (FDo.res i)⟩ ⟨b9g 0 (FDo.args i),[]⟩
structure DoF (k C s:Int) (o:Bool) (p:Pt) (r:Mv) (L:List Stk) (M:Mv) (A B out:List Stk) (pp:Pt) (T:Mv):Prop where
 s7:¬smE M (B.map b5j)=0→doE k C s o p r L=3
 j6:smE M (B.map b5j)=0→b2y (c89 M (B.map b5j))∧b67 (A++c89 M (B.map b5j))∧b67 (c89 M (B.map b5j)++A)
 nq:smE M (B.map b5j)=0→(psS k C p r).getD (Int.toNat 0) b04.d=s→¬thE r.t r.x r.y M.t M.x M.y=0→doE k C s o p r L=3
 m9:smE M (B.map b5j)=0→(psS k C p r).getD (Int.toNat 0) b04.d=s→b5n pp T∧b2b out
 nr:smE M (B.map b5j)=0→¬(psS k C p r).getD (Int.toNat 0) b04.d=s→b5n pp r∧b2b out
 jw:smE M (B.map b5j)=0→(psS k C p r).getD (Int.toNat 0) b04.d=s→thE r.t r.x r.y M.t M.x M.y=0→(¬b1j pp T out=0→doE k C s o p r L=3)∧(b1j pp T out=0→doE k C s o p r L=0)
 nu:smE M (B.map b5j)=0→¬(psS k C p r).getD (Int.toNat 0) b04.d=s→(¬b1j pp r out=0→doE k C s o p r L=3)∧(b1j pp r out=0→doE k C s o p r L=0)
 s8:(psS k C p r).getD (Int.toNat 0) b04.d=s→doR k C s p r=T
 s9:¬(psS k C p r).getD (Int.toNat 0) b04.d=s→doR k C s p r=r
theorem do_f{k C s:Int}{o:Bool}{p:Pt}{r:Mv}{L:List Stk}{M:Mv}{A B out:List Stk}{pp:Pt}{T:Mv}(bc:b5n p r)(I:DoIn k C s p r L)(hc:b1j p r L=0)(hf:b6x k C s=0)(hq:psE k C p r=0)(hu:¬(doU k C p r).length=0)
 (hM:b5k k C=M) (hA:b1q k C (1-s) L=A) (hB:b1q k C s L=B) (de:doL k C s o L=out) (Nj:doP k C o p r=pp) (hT:b6v r (b5k k C)=T):DoF k C s o p r L M A B out pp T:=by
 subst hM hA hB de Nj hT
 have e0:doE k C s o p r L=if¬doX k C s L=0 then 3 else if¬doRE k C s p r=0 then 3 else if¬b1j (doP k C o p r) (doR k C s p r) (doL k C s o L)=0 then 3 else 0:=by
  unfold doE
  rw[Iy (fun h=>h hc),Iy (fun h=>h hf),Iy (fun h=>h hq),Iy hu]
 have r1:(psS k C p r).getD (Int.toNat 0) b04.d=s→doR k C s p r=b6v r (b5k k C):=fun hs=>Iw hs
 have r2:¬(psS k C p r).getD (Int.toNat 0) b04.d=s→doR k C s p r=r:=fun hs=>Iy hs
 have q1:(psS k C p r).getD (Int.toNat 0) b04.d=s→doRE k C s p r=thE r.t r.x r.y (b5k k C).t (b5k k C).x (b5k k C).y:=fun hs=>Iw hs
 have q2:¬(psS k C p r).getD (Int.toNat 0) b04.d=s→doRE k C s p r=0:=fun hs=>Iy hs
 have e1:doX k C s L=0→doRE k C s p r=0→(¬b1j (doP k C o p r) (doR k C s p r) (doL k C s o L)=0→doE k C s o p r L=3)∧(b1j (doP k C o p r) (doR k C s p r) (doL k C s o L)=0→doE k C s o p r L=0):=fun hx P8=>by
  rw[e0,Iy (fun h=>h hx),Iy (fun h=>h P8)]
  exact⟨fun h=>Iw h,fun h=>Iy (fun k=>k h)⟩
 have ho:=fun hx=>g8i (o:=o) bc I hx
 refine⟨fun hx=>by rw[e0,Iw (show¬doX k C s L=0 from hx)],fun hx=> ?_,fun hx hs ht=> ?_,fun hx hs=> ?_,fun hx hs=> ?_,fun hx hs ht=> ?_,fun hx hs=> ?_,r1,r2⟩
 ·have:=I.D.ov hx
  exact⟨this.1,this.2.1,this.2.2.1⟩
 ·rw[e0,Iy (fun h=>h hx),Iw (by rw[q1 hs];exact ht)]
 ·rw[←r1 hs];exact ho hx
 ·have:=ho hx;rwa[r2 hs]at this
 ·rw[←r1 hs];exact e1 hx (by rw[q1 hs];exact ht)
 ·have:=e1 hx (q2 hs);rwa[r2 hs]at this
end Go.Proofs.YtdblhepcmjecgaaGreatDoor.V
