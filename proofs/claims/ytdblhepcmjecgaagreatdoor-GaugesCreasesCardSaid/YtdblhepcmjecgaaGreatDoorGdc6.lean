/-
  Parts of the proof: A19 A20 A21 C9a C9b C9c C9 C10 C11a. Conditions: none.
-/
import Derived.Test.YtdblhepcmjecgaaGreatDoorGdc5
set_option maxRecDepth 100000
set_option maxHeartbeats 40000000
namespace Go.Proofs.YtdblhepcmjecgaaGreatDoor.V
open Go
def b0j(L:List Stk):List Int:=L.flatMap (·.l)
def c43(n:Int)(L:List Stk)(i:Nat):Bool:=
 (!decide (b0q (L.getD i stR.d).c.x (L.getD i stR.d).c.y (L.getD i stR.d).c.q=0)||decide (0<(i:Int))&&decide (0≤b0v (L.getD ((i:Int)-1).toNat stR.d).c.x (L.getD ((i:Int)-1).toNat stR.d).c.y (L.getD ((i:Int)-1).toNat stR.d).c.q (L.getD i stR.d).c.x (L.getD i stR.d).c.y (L.getD i stR.d).c.q)||decide (((L.getD i stR.d).l.length:Int)=0))||(L.getD i stR.d).l.any (g2m n)
def d8b:List Int→Bool
 | []=>false
 |x::l=>l.contains x||d8b l
def c2c(W H:Int)(L:List Stk):Int:=
 if b0e W H=0 then(if(List.range L.length).any (c43 (cnt W H) L)then 1 else if d8b (b0j L)then 8 else if((b0j L).length:Int)<cnt W H then 6 else 0)else b0e W H
def pfS(L:List Stk)(i k:Nat):List Int:=b0j (L.take i)++(L.getD i stR.d).l.take k
def d50(W H:Int)(L:List Stk):Int:=if d8b (b0j L)then 8 else if((b0j L).length:Int)<cnt W H then 6 else 0
def d7d(W H:Int)(L:List Stk):Prop:=∀i,i<L.length→∀v∈(L.getD i stR.d).l,0≤v∧v<cnt W H
def ownC(W H:Int)(l:List Int):List Blk:=[.cells 23 [.int .i64 W,.int .i64 H],.cells 3 [.int .i64 (cnt W H)],.row 4 1 (cnt W H).toNat (fun j=>[.bool (l.contains (j:Int))]) none]
theorem f1f(L:List Stk)(i:Nat):pfS L i 0=b0j (L.take i):=by simp[pfS]
theorem g5a{L:List Stk}{i:Nat}(hi:i<L.length):pfS L i (L.getD i stR.d).l.length=pfS L (i+1) 0:=by
 rw[f1f]
 have:L.take (i+1)=L.take i++[L.getD i stR.d]:=by
  rw[Kn]
  simp[hi]
 simp[pfS,b0j,this]
theorem f11{L:List Stk}{i k:Nat}(hk:k<(L.getD i stR.d).l.length):pfS L i (k+1)=pfS L i k++[(L.getD i stR.d).l.getD k 0]:=by
 unfold pfS
 rw[Kn,Li]
 congr 1
 rw[It (l:=(L.getD i stR.d).l),Iv hk]
 simp
theorem f76(L:List Stk):pfS L L.length 0=b0j L:=by simp[f1f]
theorem f7s{L:List Stk}{i k:Nat}(hi:i<L.length):∃m,b0j L=pfS L i k++m:=by
 have h1:L=L.take i++L.getD i stR.d::L.drop (i+1):=by
  have:=List.take_append_drop i L
  rw[List.drop_eq_getElem_cons hi]at this
  simp[hi]
 refine⟨(L.getD i stR.d).l.drop k++b0j (L.drop (i+1)),?_⟩
 have h2:b0j L=b0j (L.take i)++((L.getD i stR.d).l++b0j (L.drop (i+1))):=by
  conv=>lhs;rw[h1]
  simp[b0j]
 rw[h2]
 unfold pfS
 rw[Li,←Li (List.take k _),List.take_append_drop]
theorem d3b(l:List Int)(x:Int):d8b (l++[x])=(d8b l||l.contains x):=by
 induction l with
 |nil=>rfl
 |cons a r ih=>
  simp only[L2,d8b,ih,List.contains_cons]
  have:(r++[x]).contains a=(r.contains a||a==x):=by
   rw[Mm]
   simp
  rw[this]
  cases r.contains a<;>cases d8b r<;>cases r.contains x<;>simp[BEq.comm (a:=a) (b:=x)]
theorem g5p{l:List Int}(m:List Int)(h:d8b l=true):d8b (l++m)=true:=by
 induction l with
 |nil=>cases h
 |cons a r ih=>
  simp only[L2,d8b,Jy]at h⊢
  rcases h with h|h
  ·left
   simp at h⊢
   exact .inl h
  ·exact .inr (ih h)
abbrev f2x:FuncId:=169
def c4j:Kon
 | [x,.agg [.int .i64 W,.int .i64 H]]=>(d2w x).map fun q=>(q.1∧(∀s∈q.2,inK .u8 s.c.q)∧(b0j q.2).length≤100000,.int .i64 (c2c W H q.2))
 |_=>none
def g51:Fam:=⟨List Stk×Int×Int,fun(L,W,H)=>[b7u L,.agg [.int .i64 W,.int .i64 H]],fun(L,_,_)=>b2y L∧(∀s∈L,inK .u8 s.c.q)∧(b0j L).length≤100000,fun(L,W,H)=>.int .i64 (c2c W H L)⟩
def g2r:List Stk×Int×Int→Nat→Option Inv
 |(L,W,H),6=>some {β:=Nat,ok:=fun i=>i≤L.length∧∀j,j<i→c43 (cnt W H) L j=false,st:=fun i=>⟨[⟨25,none,.int .i64 i⟩,⟨24,none,.int .i64 L.length⟩,⟨23,none,.sl 4 L.length (stR.row L) none⟩,⟨6,none,.own 1 0⟩,⟨4,none,.int .i64 0⟩,⟨0,none,.sl 4 L.length (stR.row L) none⟩],[.cells 23 [.int .i64 W,.int .i64 H],.cells 3 [.int .i64 (cnt W H)]]⟩,μ:=fun i=>L.length-i}
 |(L,W,H),15=>some {β:=Nat,ok:=fun i=>i≤L.length∧d8b (pfS L i 0)=false∧c2c W H L=d50 W H L∧d7d W H L,st:=fun i=>⟨[⟨68,none,.int .i64 i⟩,⟨67,none,.int .i64 L.length⟩,⟨66,none,.sl 4 L.length (stR.row L) none⟩,⟨11,none,.int .i64 (pfS L i 0).length⟩,⟨10,none,.osl 2⟩,⟨6,none,.own 1 0⟩,⟨4,none,.int .i64 0⟩],ownC W H (pfS L i 0)⟩,μ:=fun i=>L.length-i,sub:=fun i=>some fun|18=>some {β:=Nat,ok:=fun k=>k≤(L.getD i stR.d).l.length∧d8b (pfS L i k)=false,st:=fun k=>⟨[⟨75,none,.int .i64 k⟩,⟨74,none,.int .i64 (L.getD i stR.d).l.length⟩,⟨73,none,.sl 1 (L.getD i stR.d).l.length (b04.row (L.getD i stR.d).l) none⟩,⟨68,none,.int .i64 i⟩,⟨67,none,.int .i64 L.length⟩,⟨66,none,.sl 4 L.length (stR.row L) none⟩,⟨11,none,.int .i64 (pfS L i k).length⟩,⟨10,none,.osl 2⟩,⟨6,none,.own 1 0⟩,⟨4,none,.int .i64 0⟩],ownC W H (pfS L i k)++[.cells 71 [.int .i64 (L.getD i stR.d).c.x,.int .i64 (L.getD i stR.d).c.y,.int .u8 (L.getD i stR.d).c.q,.sl 1 (L.getD i stR.d).l.length (b04.row (L.getD i stR.d).l) none]]⟩,μ:=fun k=>(L.getD i stR.d).l.length-k}|_=>none}
 |_,_=>none
theorem g50:PS f2x c4j:=by
 refine con [(b4d,b0z),(d97,c8j),(b3r,b14),(b33,b1t),(f2m,d0v)] (by simpa using⟨b2c,d9j,b3h,b8s,j1q⟩) g51 g2r c4j ?_ ?_ Go.Proofs.Tryz.func169 Du Du Du ?_
 ·intro args pre s h hp
  unfold c4j at h
  split at h
  ·rename_i x W H
   simp only[Ia]at h
   obtain⟨⟨q,L⟩,hx,rfl,rfl⟩:=h
   obtain⟨h1,h2⟩:=b4j hx hp.1
   exact⟨(L,W,H),⟨h1,E8,Ix⟩,⟨h2,hp.2⟩,rfl⟩
  ·cases h
 ·exact Bv
 ·rintro⟨L,W,H⟩ hp
  replace hp:b2y L∧(∀s∈L,inK .u8 s.c.q)∧(b0j L).length≤100000:=hp
  have hc:0≤cnt W H∧cnt W H≤1024:=by
   unfold cnt
   split
   ·have:=b11 ‹_›
    have e:4*W*H=4*(W*H):=Int.mul_assoc _ _ _
    omega
   ·omega
  have hl:=hp.1.1
  refine wlk _ ?_;(repeat' first|constructor|refine Iu fun hu=> ?_|intro h);all_goals refine Lm ?_
  ·have h':¬b0e W H=0:=E1
   unfold c2c
   rw[Iy h']
  ·refine⟨(0:Nat),⟨J5 _,fun j hj=>Dt⟩,?_,?_⟩
   ·refine wlk _ ?_;(repeat' first|constructor|refine Iu fun hu=> ?_|intro h);all_goals refine Lm ?_
    all_goals first|exact A5|skip
   ·intro i hi
    obtain⟨cw,be⟩:=hi
    have hg:=b45 hp.1 i
    have hg2:=b45 hp.1 (i-1)
    have hq:∀k,inK .u8 (L.getD k stR.d).c.q:=fun k=>by
     rw[It]
     cases hk:L[k]? with
     |none=>exact(by simp only[inK];decide:inK .u8 0)
     |some s=>exact hp.2.1 s (J0 hk)
    refine wlk _ ?_;(repeat' first|constructor|refine Iu fun hu=> ?_|intro h);all_goals refine Lm ?_
    all_goals(try simp only[I8,RT.lst_row]at*)
    all_goals(first
     |omega
     |exact hg
     |exact⟨rfl,b04.isL_row _,hg⟩
     |exact hq _
     |exact Au
     |exact Bm
     |exact A4
     |(rintro⟨_,hx⟩;have hx:=K2 hx;simp only[inK];omega)
     |(rintro⟨_,hx⟩;have hx:=K2 hx;omega)
     |(rintro⟨_,hx⟩;exact⟨hq _,hq _⟩)
     |skip)
    ·have hb:c43 (cnt W H) L i=true:=Dx
     have hs:b0e W H=0:=I0
     have:(List.range L.length).any (c43 (cnt W H) L)=true:=Jc.2 ⟨i,K1.2 Dt,hb⟩
     unfold c2c
     rw[Iw hs,Iw this]
    ·have hb:c43 (cnt W H) L i=false:=Dx
     refine⟨i+1,⟨Dt,fun j hj=> ?_⟩,Dt,?_⟩
     ·by_cases e:j<i
      ·exact be j e
      ·have:j=i:=Dt
       subst this
       exact hb
     ·refine wlk _ ?_;(repeat' first|constructor|refine Iu fun hu=> ?_|intro h);all_goals refine Lm ?_
      all_goals first|exact Aq|skip
    ·refine⟨Dt,Dt,c34 Du Dt Dt,Dt⟩
    ·have hs:b0e W H=0:=I0
     have ta:(List.range L.length).any (c43 (cnt W H) L)=false:=by
      rw[Ji]
      intro j hj
      have:=be j H4
      simp[this]
     have e2:c2c W H L=d50 W H L:=by
      unfold c2c
      rw[Iw hs,Iy (by simp[ta])]
      rfl
     have c6:d7d W H L:=by
      intro j hj v hv
      have hb:=be j Dt
      unfold c43 at hb
      rw[Ka]at hb
      have:=Ji.1 hb.2 v hv
      simp[g2m]at this
      omega
     refine⟨(0:Nat),⟨J5 _,rfl,e2,c6⟩,?_,?_⟩
     ·refine wlk _ ?_;(repeat' first|constructor|refine Iu fun hu=> ?_|intro h);all_goals refine Lm ?_
      all_goals first|exact Aq|skip
     ·intro i hi
      obtain⟨cw,be,fj,zb⟩:=hi
      have hg:=b45 hp.1 i
      refine wlk _ ?_;(repeat' first|constructor|refine Iu fun hu=> ?_|intro h);all_goals refine Lm ?_
      all_goals(try simp only[I8]at*)
      all_goals(first
       |omega
       |exact Au
       |skip)
      ·have qv:i<L.length:=Dt
       refine⟨(0:Nat),⟨J5 _,be⟩,?_,?_⟩
       ·refine wlk _ ?_;(repeat' first|constructor|refine Iu fun hu=> ?_|intro h);all_goals refine Lm ?_
        all_goals first|exact Aq|skip
       ·intro k hk
        obtain⟨m7,df⟩:=hk
        obtain⟨m,hm⟩:=f7s (k:=k) qv
        have P9:(pfS L i k).length≤100000:=by
         have:=hp.2.2
         rw[hm,Jj]at this
         omega
        have hv:k<(L.getD i stR.d).l.length→0≤(L.getD i stR.d).l.getD k b04.d∧(L.getD i stR.d).l.getD k b04.d<cnt W H:=fun h=>zb i qv _ (by
         rw[It (l:=(L.getD i stR.d).l),Iv h]
         exact Jn h)
        refine wlk _ ?_;(repeat' first|constructor|refine Iu fun hu=> ?_|intro h);all_goals refine Lm ?_
        all_goals(try simp only[I8]at*)
        all_goals(first
         |omega
         |exact Au
         |(have:=hv Dt;omega)
         |(show ((L.getD i stR.d).l.getD k b04.d).toNat<(cnt W H).toNat;have:=hv Dt;omega)
         |skip)
        ·have dm:=hv Dt
         rw[show ((((L.getD i stR.d).l.getD k b04.d).toNat:Nat):Int)=(L.getD i stR.d).l.getD k b04.d from Dt]at*
         obtain⟨m',ju⟩:=f7s (k:=k+1) qv
         rw[fj]
         unfold d50
         rw[Iw]
         rw[ju]
         refine g5p m' ?_
         rw[f11 Dt,d3b]
         rw[Jy]
         right
         assumption
        ·have dm:=hv Dt
         rw[show ((((L.getD i stR.d).l.getD k b04.d).toNat:Nat):Int)=(L.getD i stR.d).l.getD k b04.d from Dt]at*
         have qf:(pfS L i k).contains ((L.getD i stR.d).l.getD k b04.d)=false:=Dx
         have Pb:=f11 (L:=L) (i:=i) (k:=k) Dt
         refine⟨k+1,⟨Dt,?_⟩,Dt,?_⟩
         ·rw[Pb,d3b,df,Mb]
          exact qf
         ·refine wlk _ ?_;(repeat' first|constructor|refine Iu fun hu=> ?_|intro h);all_goals refine Lm ?_
          all_goals first
           |exact Aq
           |(rw[Pb,Jj];rfl)
           |skip
          intro j hj
          rw[Pb]
          by_cases ej:j=((L.getD i stR.d).l.getD k b04.d).toNat
          ·have e3:(j:Int)=(L.getD i stR.d).l.getD k b04.d:=Dt
           have e4:((pfS L i k)++[(L.getD i stR.d).l.getD k 0]).contains ((L.getD i stR.d).l.getD k b04.d)=true:=by
            rw[Md,Jz,Jf]
            exact .inr (Jk.2 rfl)
           rw[Jw ej,e3,e4]
           rfl
          ·have e3:¬(j:Int)=(L.getD i stR.d).l.getD k b04.d:=Dt
           rw[Jq ej]
           have e4:((pfS L i k)++[(L.getD i stR.d).l.getD k 0]).contains (j:Int)=(pfS L i k).contains (j:Int):=by
            rw[Mm]
            have e5:¬(j:Int)=(L.getD i stR.d).l.getD k 0:=e3
            simp only[Md,Jf,Jk,Jz,e5,or_false]
           rw[e4]
           rfl
        ·have hkL:k=(L.getD i stR.d).l.length:=Dt
         subst hkL
         have dq:=g5a qv
         refine⟨i+1,⟨Dt,by rw[←dq];exact df,fj,zb⟩,Dt,?_⟩
         refine wlk _ ?_;(repeat' first|constructor|refine Iu fun hu=> ?_|intro h);all_goals refine Lm ?_
         all_goals first
          |exact Aq
          |(rw[dq];done)
          |(intro j hj;rw[dq];done)
          |skip
      ·have qv:i=L.length:=Dt
       subst qv
       rw[f76]at*
       rw[fj]
       unfold d50
       rw[Iy (by simp[be]),Iw Dx]
      ·have qv:i=L.length:=Dt
       subst qv
       rw[f76]at*
       rw[fj]
       unfold d50
       rw[Iy (by simp[be]),Iy Dx]
def capI:SV→Option (Prop×List Cl×Option Nat)
 |.rel 1 1 f 0 0=>match f 0 with
  | [.sl 3 n g cp]=>some (f=(fun _=>[.sl 3 n g cp])∧g=clR.row (clR.lst n g),clR.lst n g,cp)
  |_=>none
 |_=>none
def d64(l:List Cl)(cp:Option Nat):SV:=.rel 1 1 (fun _=>[.sl 3 l.length (clR.row l) cp]) 0 0
theorem d8e{s:SV}{q:Prop}{l:List Cl}{cp:Option Nat}(h:capI s=some (q,l,cp))(hq:q):s=d64 l cp:=by
 unfold capI at h
 split at h
 ·split at h
  ·cases h
   obtain⟨h1,h2⟩:=hq
   rw[h1]
   unfold d64
   rw[RT.lst_length,←h2]
  ·cases h
 ·cases h
def capC:SV→Option (Prop×Cl×SV)
 |.rel 4 1 f 0 0=>match f 0 with
  | [.int .i64 a,.int .i64 b,.int .u8 c,z]=>some (f=(fun _=>[.int .i64 a,.int .i64 b,.int .u8 c,z]),⟨a,b,c⟩,z)
  |_=>none
 |_=>none
def f56(c:Cl)(z:SV):SV:=.rel 4 1 (fun _=>[.int .i64 c.x,.int .i64 c.y,.int .u8 c.q,z]) 0 0
theorem d6k{s:SV}{q:Prop}{c:Cl}{z:SV}(h:capC s=some (q,c,z))(hq:q):s=f56 c z:=by
 unfold capC at h
 split at h
 ·split at h
  ·cases h
   rw[hq]
   rfl
  ·cases h
 ·cases h
def g0v(im:List Cl)(c:Cl)(v:Int):Bool:= !decide (im.getD v.toNat clR.d=c)
abbrev b9v:FuncId:=171
def d1v:Kon
 | [.int .i64 v,s,t]=>match capI s,capC t with
   |some (q,im,_),some (q',c,_)=>some ((q∧q')∧0≤v∧v<im.length,.bool (g0v im c v))
   |_,_=>none
 |_=>none
def j4w:Fam:=⟨Int×(List Cl×Option Nat)×Cl×SV,fun(v,(im,cp),c,z)=>[.int .i64 v,d64 im cp,f56 c z],fun(v,(im,_),_,_)=>0≤v∧v<im.length,fun(v,(im,_),c,_)=>.bool (g0v im c v)⟩
theorem j16:PS b9v d1v:=by
 refine con [] Dv j4w (fun _ _=>none) d1v ?_ ?_ Go.Proofs.Tryz.func171 Du Du Du ?_
 ·intro args pre s h hp
  unfold d1v at h
  split at h
  ·rename_i v x1 x2
   split at h
   ·rename_i q im cp q' c z h1 h2
    cases h
    rw[d8e h1 hp.1.1,d6k h2 hp.1.2]
    exact⟨(v,(im,cp),c,z),⟨E3,by simp[d64,SV.le2,SV.le1,SV.le0],by simp[f56,SV.le2,SV.le1,SV.le0],Ix⟩,hp.2,rfl⟩
   ·cases h
  ·cases h
 ·exact Bw
 ·rintro⟨v,⟨im,cp⟩,c,z⟩ hp
  replace hp:0≤v∧v<im.length:=hp
  refine wlk _ ?_;(repeat' first|constructor|refine Iu fun hu=> ?_|intro h);all_goals refine Lm ?_
  all_goals(first
   |exact hp
   |(show v.toNat<im.length;omega)
   |(simp only[g0v,clEq];done)
   |skip)
def d21:Kon
 | [x,.clo g [s,t]]=>if g=b9v then(match b04.as x,capI s,capC t with
   |some (n,f),some (q,im,_),some (q',c,_)=>some ((q∧q')∧(b04.isL n f∧n≤100000)∧∀v∈b04.lst n f,0≤v∧v<im.length,.int .i64 (f5b (g0v im c) (b04.lst n f)))
   |_,_,_=>none)else none
 |_=>none
def j0p:Fam:=⟨List Int×(List Cl×Option Nat)×Cl×SV,fun(l,(im,cp),c,z)=>[.sl 1 l.length (b04.row l) none,.clo b9v [d64 im cp,f56 c z]],fun(l,(im,_),_,_)=>l.length≤100000∧∀v∈l,0≤v∧v<im.length,fun(l,(im,_),c,_)=>.int .i64 (f5b (g0v im c) l)⟩
def j0s:List Int×(List Cl×Option Nat)×Cl×SV→Nat→Option Inv
 |(l,(im,cp),c,z),2=>some {β:=Nat,ok:=fun i=>i≤l.length∧∀j,j<i→g0v im c (l.getD j 0)=false,st:=fun i=>⟨[⟨8,none,.int .i64 i⟩,⟨7,none,.int .i64 l.length⟩,⟨1,none,.clo b9v [d64 im cp,f56 c z]⟩,⟨0,none,.sl 1 l.length (b04.row l) none⟩],[]⟩,μ:=fun i=>l.length-i}
 |_,_=>none
theorem j1g:PS f0r d21:=by
 refine con [(b9v,d1v)] (by simpa using j16) j0p j0s d21 ?_ ?_ Go.Proofs.Tryz.func211 Du Du Du ?_
 ·intro args pre s h hp
  unfold d21 at h
  split at h
  ·split at h
   ·rename_i hg
    subst hg
    split at h
    ·rename_i n f q im cp q' c z hx h1 h2
     cases h
     rw[d8e h1 hp.1.1,d6k h2 hp.1.2]
     exact Dm
    ·cases h
   ·cases h
  ·cases h
 ·exact Bv
 ·rintro⟨l,⟨im,cp⟩,c,z⟩ hp
  replace hp:l.length≤100000∧∀v∈l,0≤v∧v<im.length:=hp
  refine wlk _ ?_;(repeat' first|constructor|refine Iu fun hu=> ?_|intro h);all_goals refine Lm ?_
  refine⟨(0:Nat),⟨J5 _,fun j hj=>Dt⟩,?_,?_⟩
  ·refine wlk _ ?_;(repeat' first|constructor|refine Iu fun hu=> ?_|intro h);all_goals refine Lm ?_
   all_goals first|exact A5|skip
  ·intro i hi
   obtain⟨cw,be⟩:=hi
   have hv:i<l.length→0≤l.getD i b04.d∧l.getD i b04.d<im.length:=fun h=>hp.2 _ (by
    rw[It,Iv h]
    exact Jn h)
   refine wlk _ ?_;(repeat' first|constructor|refine Iu fun hu=> ?_|intro h);all_goals refine Lm ?_
   all_goals(try simp only[I8,RT.lst_row]at*)
   all_goals(first
    |exact An
    |rfl
    |exact⟨⟨⟨Ix,Ix⟩,Ix⟩,hv Dt⟩
    |exact Bh
    |exact(d1m Dt be Dx).symm
    |(refine⟨i+1,⟨Dt,fun j hj=> ?_⟩,E6,?_⟩)
    |exact Bi
    |skip)
   ·by_cases e:j<i
    ·exact be j e
    ·have:j=i:=Dt
     subst this
     assumption
   ·refine wlk _ ?_;(repeat' first|constructor|refine Iu fun hu=> ?_|intro h);all_goals refine Lm ?_
    all_goals first|exact Aq|skip
def d0s:Kon
 | [x,.clo g [s,t]]=>if g=b9v then(match b04.as x,capI s,capC t with
   |some (n,f),some (q,im,_),some (q',c,_)=>some ((q∧q')∧(b04.isL n f∧n≤100000)∧∀v∈b04.lst n f,0≤v∧v<im.length,.bool ((b04.lst n f).any (g0v im c)))
   |_,_,_=>none)else none
 |_=>none
def j4j:Fam:=⟨List Int×(List Cl×Option Nat)×Cl×SV,fun(l,(im,cp),c,z)=>[.sl 1 l.length (b04.row l) none,.clo b9v [d64 im cp,f56 c z]],fun(l,(im,_),_,_)=>l.length≤100000∧∀v∈l,0≤v∧v<im.length,fun(l,(im,_),c,_)=>.bool (l.any (g0v im c))⟩
theorem j15:PS f2m d0s:=by
 refine con [(f0r,d21)] (by simpa using j1g) j4j (fun _ _=>none) d0s ?_ ?_ Go.Proofs.Tryz.func170 Du Du Du ?_
 ·intro args pre s h hp
  unfold d0s at h
  split at h
  ·split at h
   ·rename_i hg
    subst hg
    split at h
    ·rename_i n f q im cp q' c z hx h1 h2
     cases h
     rw[d8e h1 hp.1.1,d6k h2 hp.1.2]
     exact Dm
    ·cases h
   ·cases h
  ·cases h
 ·exact Bv
 ·rintro⟨l,⟨im,cp⟩,c,z⟩ hp
  replace hp:l.length≤100000∧∀v∈l,0≤v∧v<im.length:=hp
  refine wlk _ ?_;(repeat' first|constructor|refine Iu fun hu=> ?_|intro h);all_goals refine Lm ?_
  all_goals(try simp only[RT.lst_row]at*)
  all_goals(first
   |exact⟨⟨⟨Ix,Ix⟩,Ix⟩,⟨b04.isL_row l,hp.1⟩,hp.2⟩
   |exact⟨⟨⟨rfl,rfl⟩,rfl⟩,⟨b04.isL_row l,hp.1⟩,hp.2⟩
   |exact d24 _ _
   |skip)
theorem c9k{W H:Int}{L:List Stk}(h:c2c W H L=0):b0e W H=0∧(∀i,i<L.length→c43 (cnt W H) L i=false)∧d8b (b0j L)=false∧cnt W H≤(b0j L).length:=by
 unfold c2c at h
 split at h
 ·rename_i hs
  split at h
  ·cases h
  ·rename_i h1
   split at h
   ·cases h
   ·rename_i h2
    split at h
    ·cases h
    ·refine⟨hs,fun i hi=> ?_,by simpa using h2,Dt⟩
     have:=Ji.1 (by simpa using h1:(List.range L.length).any (c43 (cnt W H) L)=false) i (K1.2 hi)
     simpa using this
 ·rename_i hs;exact absurd h hs
theorem d31{W H:Int}{L:List Stk}(h:∀i,i<L.length→c43 (cnt W H) L i=false):d7d W H L:=by
 intro j hj v hv
 have hb:=h j hj
 unfold c43 at hb
 rw[Ka]at hb
 have:=Ji.1 hb.2 v hv
 simp[g2m]at this
 omega
theorem im_len{p:Pt}{r:Mv}(h:b0w p r=0):((b01 p r).length:Int)=cnt p.W p.H:=by
 have h1:b0m p=0∧b4e p=0:=by
  unfold b0w at h
  split at h
  ·rename_i a
   split at h
   ·split at h
    ·rename_i b;exact⟨a,b⟩
    ·rename_i b;exact absurd h b
   ·cases h
  ·rename_i a;exact absurd h a
 have hs:=(b0r h1.1).1
 have:=(d1g p).1 h1.2
 have:=(b7g h).1
 have:=(c0y hs).2.2
 omega
theorem b6g{p:Prop}[Decidable p]:((!decide p)=true)=¬p:=Dv
theorem b6f{p:Prop}[Decidable p]:((!decide p)=false)=p:=Dv
def g8a(im:List Cl)(s:Stk):Bool:=s.l.any (g0v im s.c)
def j02(c:Cl)(e:Nat):Bool:= !decide (b3t c.x c.y c.q e=0)
def j00(s:Stk):Bool:=(List.range 3).any (j02 s.c)
def b2j(p:Pt)(r:Mv)(L:List Stk):Int:=
 if b0w p r=0 then(if c2c p.W p.H L=0 then(if L.any (g8a (b01 p r))then 6 else if L.any j00 then 3 else 0)else c2c p.W p.H L)else b0w p r
def b2b(L:List Stk):Prop:=b2y L∧(∀s∈L,inK .u8 s.c.q)∧(b0j L).length≤100000
abbrev d40:FuncId:=101
def c1r:Kon
 | [x,y,z]=>match g86 [x,y],d2w z with
   |some q,some s=>some (q.1∧s.1∧(∀t∈s.2,inK .u8 t.c.q)∧(b0j s.2).length≤100000,.int .i64 (b2j q.2.1 q.2.2 s.2))
   |_,_=>none
 |_=>none
def f8q:Fam:=⟨Pt×Mv×List Stk,fun(p,r,L)=>[b6i p,g2n r,b7u L],fun(p,r,L)=>b5n p r∧b2b L,fun(p,r,L)=>.int .i64 (b2j p r L)⟩
def f7i:Pt×Mv×List Stk→Nat→Option Inv
 |(p,r,L),8=>some {β:=Nat,ok:=fun i=>i≤L.length∧∀j,j<i→g8a (b01 p r) (L.getD j stR.d)=false,st:=fun i=>⟨[⟨35,none,.int .i64 i⟩,⟨34,none,.int .i64 L.length⟩,⟨33,none,.sl 4 L.length (stR.row L) none⟩,⟨7,none,.own 2 0⟩,⟨6,none,.int .i64 0⟩,⟨2,none,.sl 4 L.length (stR.row L) none⟩],[.cells 26 [.int .i64 p.W,.int .i64 p.H,.sl 3 p.l.length (b20 p.l) none],.cells 28 [.int .u8 r.t,.int .i64 r.x,.int .i64 r.y],.cells 80 [.sl 3 (b01 p r).length (clR.row (b01 p r)) none]]⟩,μ:=fun i=>L.length-i}
 |(_,_,L),14=>some {β:=Nat,ok:=fun i=>i≤L.length∧∀j,j<i→j00 (L.getD j stR.d)=false,st:=fun i=>⟨[⟨46,none,.int .i64 i⟩,⟨45,none,.int .i64 L.length⟩,⟨44,none,.sl 4 L.length (stR.row L) none⟩,⟨6,none,.int .i64 0⟩],[]⟩,μ:=fun i=>L.length-i,sub:=fun i=>some fun|17=>some {β:=Nat,ok:=fun k=>k≤3∧∀j,j<k→j02 (L.getD i stR.d).c j=false,st:=fun k=>⟨[⟨50,none,.int .u8 k⟩,⟨13,none,.own 0 0⟩,⟨46,none,.int .i64 i⟩,⟨45,none,.int .i64 L.length⟩,⟨44,none,.sl 4 L.length (stR.row L) none⟩,⟨6,none,.int .i64 0⟩],[.cells 71 [.int .i64 (L.getD i stR.d).c.x,.int .i64 (L.getD i stR.d).c.y,.int .u8 (L.getD i stR.d).c.q,.sl 1 (L.getD i stR.d).l.length (b04.row (L.getD i stR.d).l) none]]⟩,μ:=fun k=>3-k}|_=>none}
 |_,_=>none
theorem f9h:PS d40 c1r:=by
 refine con [(c2w,b9y),(f2x,c4j),(f2m,d0s),(b5a,b16)] (by simpa using⟨c7g,g50,j15,b39⟩) f8q f7i c1r ?_ ?_ Go.Proofs.Tryz.func101 Du Du Du ?_
 ·intro args pre s h hp
  unfold c1r at h
  split at h
  ·rename_i x y z
   split at h
   ·rename_i q t h1 h2
    cases h
    obtain⟨q,p,r⟩:=q
    obtain⟨u,L⟩:=t
    obtain⟨a1,a2⟩:=d68 h1 hp.1
    obtain⟨b1,b2⟩:=b4j h2 hp.2.1
    exact Dn
   ·cases h
  ·cases h
 ·exact Bw
 ·rintro⟨p,r,L⟩ ⟨bc,bm⟩
  have hl:=bm.1.1
  refine wlk _ ?_;(repeat' first|constructor|refine Iu fun hu=> ?_|intro h);all_goals refine Lm ?_
  all_goals(try simp only[b00,RT.lst_row]at*)
  all_goals(try simp only[b6g,b6f]at*)
  all_goals(first
   |exact Ay
   |exact⟨b2i L bm.1,bm.2⟩
   |skip)
  ·have h1:¬b0w p r=0:=Dx
   unfold b2j
   rw[Iy h1]
  ·have h1:b0w p r=0:=Dx
   have h2:¬c2c p.W p.H L=0:=Dx
   unfold b2j
   rw[Iw h1,Iy h2]
  ·have h1:b0w p r=0:=Dx
   have h2:c2c p.W p.H L=0:=Dx
   have h3:=d31 (c9k h2).2.1
   have h4:=im_len h1
   have hx:b2j p r L=if L.any (g8a (b01 p r))then 6 else if L.any j00 then 3 else 0:=by
    unfold b2j
    rw[Iw h1,Iw h2]
   refine⟨(0:Nat),⟨J5 _,fun j hj=>Dt⟩,?_,?_⟩
   ·refine wlk _ ?_;(repeat' first|constructor|refine Iu fun hu=> ?_|intro h);all_goals refine Lm ?_
    all_goals first|exact A5|skip
   ·intro i hi
    obtain⟨cw,be⟩:=hi
    have hg:=b45 bm.1 i
    have c6:i<L.length→∀v∈(L.getD i stR.d).l,0≤v∧v<(b01 p r).length:=fun hi v hv=>by
     have:=h3 i hi v hv
     omega
    refine wlk _ ?_;(repeat' first|constructor|refine Iu fun hu=> ?_|intro h);all_goals refine Lm ?_
    all_goals(try simp only[I8,RT.lst_row]at*)
    all_goals(first
     |exact An
     |skip)
    ·refine⟨⟨⟨rfl,?_⟩,rfl⟩,⟨b04.isL_row _,hg⟩,c6 Dt⟩
     first|trivial|rfl|(rw[RT.lst_row])
    ·have hb:g8a (b01 p r) (L.getD i stR.d)=true:=Dx
     rw[hx,Iw]
     refine Jc.2 ⟨L.getD i stR.d,?_,hb⟩
     rw[It,Iv Dt]
     exact Jn _
    ·have hb:g8a (b01 p r) (L.getD i stR.d)=false:=Dx
     refine⟨i+1,⟨Dt,fun j hj=> ?_⟩,Dt,?_⟩
     ·by_cases e:j<i
      ·exact be j e
      ·have:j=i:=Dt
       subst this
       exact hb
     ·refine wlk _ ?_;(repeat' first|constructor|refine Iu fun hu=> ?_|intro h);all_goals refine Lm ?_
      all_goals first|exact Aq|skip
    ·have hm:L.any (g8a (b01 p r))=false:=by
      rw[Ji]
      intro s hs
      obtain⟨j,hj,rfl⟩:=Jg.1 hs
      have:=be j Dt
      rw[It,Iv hj]at this
      simpa using this
     rw[Iy (by simp[hm])]at hx
     refine⟨(0:Nat),⟨J5 _,fun j hj=>Dt⟩,?_,?_⟩
     ·refine wlk _ ?_;(repeat' first|constructor|refine Iu fun hu=> ?_|intro h);all_goals refine Lm ?_
      all_goals first|exact Aq|skip
     ·intro i hi
      obtain⟨cw,be⟩:=hi
      have hg:=b45 bm.1 i
      have hq:0≤(L.getD i stR.d).c.q∧(L.getD i stR.d).c.q≤255:=by
       rw[It]
       cases hk:L[i]? with
       |none=>exact(by decide:(0:Int)≤0∧(0:Int)≤255)
       |some s=>exact bm.2.1 s (J0 hk)
      refine wlk _ ?_;(repeat' first|constructor|refine Iu fun hu=> ?_|intro h);all_goals refine Lm ?_
      all_goals(try simp only[I8]at*)
      all_goals(first
       |exact An
       |skip)
      ·refine⟨(0:Nat),⟨J5 _,fun j hj=>Dt⟩,?_,?_⟩
       ·refine wlk _ ?_;(repeat' first|constructor|refine Iu fun hu=> ?_|intro h);all_goals refine Lm ?_
        all_goals first|exact Aq|skip
       ·intro k hk
        obtain⟨m7,df⟩:=hk
        refine wlk _ ?_;(repeat' first|constructor|refine Iu fun hu=> ?_|intro h);all_goals refine Lm ?_
        all_goals(try simp only[I8,b6g,b6f]at*)
        all_goals(first
         |omega
         |exact⟨hq,Ez⟩
         |exact⟨hq.1,hq.2,Dt,Dt⟩
         |exact⟨hq,Dt,Dt⟩
         |exact A4
         |skip)
        ·have hb:j02 (L.getD i stR.d).c k=true:=by
          have:¬b3t (L.getD i stR.d).c.x (L.getD i stR.d).c.y (L.getD i stR.d).c.q (k:Int)=0:=Dx
          unfold j02
          rw[b6g]
          exact this
         rw[hx,Iw]
         refine Jc.2 ⟨L.getD i stR.d,?_,Jc.2 ⟨k,K1.2 Dt,hb⟩⟩
         rw[It,Iv Dt]
         exact Jn _
        ·have hb:j02 (L.getD i stR.d).c k=false:=by
          have:b3t (L.getD i stR.d).c.x (L.getD i stR.d).c.y (L.getD i stR.d).c.q (k:Int)=0:=Dx
          unfold j02
          rw[b6f]
          exact this
         refine⟨k+1,⟨Dt,fun j hj=> ?_⟩,Dt,?_⟩
         ·by_cases e:j<k
          ·exact df j e
          ·have:j=k:=Dt
           subst this
           exact hb
         ·refine wlk _ ?_;(repeat' first|constructor|refine Iu fun hu=> ?_|intro h);all_goals refine Lm ?_
          all_goals first|exact Aq|skip
        ·have hb:j00 (L.getD i stR.d)=false:=by
          unfold j00
          rw[Ji]
          intro j hj
          have:=df j H4
          rw[this]
          exact M7
         refine⟨i+1,⟨Dt,fun j hj=> ?_⟩,Dt,?_⟩
         ·by_cases e:j<i
          ·exact be j e
          ·have:j=i:=Dt
           subst this
           exact hb
         ·refine wlk _ ?_;(repeat' first|constructor|refine Iu fun hu=> ?_|intro h);all_goals refine Lm ?_
          all_goals first|exact Aq|skip
      ·have hm:L.any j00=false:=by
        rw[Ji]
        intro s hs
        obtain⟨j,hj,rfl⟩:=Jg.1 hs
        have:=be j Dt
        rw[It,Iv hj]at this
        simpa using this
       rw[hx,Iy (by simp[hm])]
def b89(c:Cl):List Int:=[c.y,c.x,c.q]
theorem b77(a b:Cl):b0v a.x a.y a.q b.x b.y b.q=b0t (b89 a) (b89 b):=by
 simp only[b0v,g3s,b0t,b89,b3f]
 repeat' split
 all_goals(first|rfl|omega)
theorem g38{a b:Cl}(h:b89 a=b89 b):a=b:=by
 simp only[b89,Ip]at h
 exact Cl.ext' h.2.1 h.1 h.2.2
theorem f28{L:List Stk}(h:∀i,0<i→i<L.length→b0t (b89 (L.getD (i-1) stR.d).c) (b89 (L.getD i stR.d).c)<0):∀j i,i<j→j<L.length→b0t (b89 (L.getD i stR.d).c) (b89 (L.getD j stR.d).c)<0
 |0,i,h1,_=>Dt
 |j+1,i,h1,h2=>by
  have hj:=h (j+1) Dt h2
  simp only[Nat.add_sub_cancel]at hj
  by_cases e:i=j
  ·subst e;exact hj
  ·exact b51 _ _ _ (f28 h j i Dt Dt) hj
theorem c7e:∀(n:Nat) (l:List Int),l.Nodup→(∀x∈l,0≤x∧x<n)→l.length≤n
 |0,[],_,_=>J2 _
 |0,x::l,_,h=>by have:=h x Dv;omega
 |n+1,l,hn,h=>by
  by_cases e:(n:Int)∈l
  ·have h1:=c7e n (l.erase n) (hn.erase _) (fun x hx=>by
    have:=(List.Nodup.mem_erase_iff hn).1 hx
    have:=h x this.2
    omega)
   rw[List.length_erase_of_mem e]at h1
   omega
  ·have:=c7e n l hn (fun x hx=>by
    have:=h x hx
    have:x≠n:=fun e'=>e (e'▸hx)
    omega)
   omega
theorem d51:∀{l:List Int},d8b l=false→l.Nodup
 | [],_=>List.nodup_nil
 |x::l,h=>by
  simp only[d8b,Ka]at h
  exact M9.2 ⟨by simpa using h.1,d51 h.2⟩
structure SkOK (p:Pt) (r:Mv) (L:List Stk):Prop where
 hs:b0e p.W p.H=0
 P:PlOK p r
 lt:∀i j,i<j→j<L.length→b0t (b89 (L.getD i stR.d).c) (b89 (L.getD j stR.d).c)<0
 vc:∀s∈L,vC s.c
 ne:∀s∈L,s.l≠[]
 nd:(b0j L).Nodup
 rg:∀v∈b0j L,0≤v∧v<4*p.W*p.H
 all:∀u:Int,0≤u→u<4*p.W*p.H→u∈b0j L
 im:∀s∈L,∀v∈s.l,(b01 p r).getD v.toNat clR.d=s.c
 nb:∀s∈L,∀e:Int,0≤e→e<3→b3t s.c.x s.c.y s.c.q e=0
theorem b0c{α:Type}{l:List α}{i:Nat}{d:α}(h:i<l.length):l.getD i d∈l:=by
 rw[It,Iv h]
 exact Jn h
theorem b2v{α:Type}{l:List α}{x d:α}(h:x∈l):∃i,i<l.length∧l.getD i d=x:=by
 obtain⟨i,hi,e⟩:=Jg.1 h
 exact⟨i,hi,by rw[It,Iv hi];exact e⟩
theorem c0s{p:Pt}{r:Mv}{L:List Stk}(h:b2j p r L=0):b0w p r=0∧c2c p.W p.H L=0∧L.any (g8a (b01 p r))=false∧L.any j00=false:=by
 unfold b2j at h
 split at h
 ·rename_i h1
  split at h
  ·rename_i h2
   split at h
   ·cases h
   ·rename_i h3
    split at h
    ·cases h
    ·rename_i h4;exact⟨h1,h2,Ga,F5⟩
  ·rename_i h2;exact absurd h h2
 ·rename_i h1;exact absurd h h1
theorem f3x{p:Pt}{r:Mv}{L:List Stk}(h:b2j p r L=0)(hr:0≤r.t)(hq:∀s∈L,inK .u8 s.c.q):SkOK p r L:=by
 obtain⟨h1,h2,h3,h4⟩:=c0s h
 obtain⟨hs,hb,hd,hl⟩:=c9k h2
 have c6:=d31 hb
 have hc:cnt p.W p.H=4*p.W*p.H:=by simp[cnt,hs]
 have hN:=b1b hs
 have nd:=d51 hd
 have rg:∀v∈b0j L,0≤v∧v<4*p.W*p.H:=by
  intro v hv
  obtain⟨s,cc,dm⟩:=Mf.1 hv
  obtain⟨i,hi,rfl⟩:=b2v (d:=stR.d) cc
  have:=c6 i hi v dm
  omega
 have bad:∀i,i<L.length→(b0q (L.getD i stR.d).c.x (L.getD i stR.d).c.y (L.getD i stR.d).c.q=0∧(0<i→b0t (b89 (L.getD (i-1) stR.d).c) (b89 (L.getD i stR.d).c)<0))∧(L.getD i stR.d).l≠[]:=by
  intro i hi
  have:=hb i hi
  unfold c43 at this
  simp only[Ka,Bool.and_eq_false_iff,Bool.not_eq_false',Ie]at this
  obtain⟨⟨⟨g1,g2⟩,g3⟩,_⟩:=this
  refine⟨⟨g1,fun h0=> ?_⟩,fun e=>g3 (by rw[e];rfl)⟩
  rw[←b77]
  have e:((i:Int)-1).toNat=i-1:=Dt
  rw[e]at g2
  rcases g2 with g2|g2
  ·exact absurd Dt g2
  ·omega
 refine⟨hs,b6u hr h1,fun i j dj hj=>f28 (fun i h0 hi=>(bad i hi).1.2 h0) j i dj hj,fun s cc=> ?_,fun s cc=> ?_,nd,rg,fun u h0 hu=> ?_,fun s cc v hv=> ?_,fun s cc e jv he=> ?_⟩
 ·obtain⟨i,hi,rfl⟩:=b2v (d:=stR.d) cc
  have g:=(bad i hi).1.1
  have g2:=hq _ cc
  simp only[inK]at g2
  unfold b0q at g
  split at g
  ·unfold vC;omega
  ·cases g
 ·obtain⟨i,hi,rfl⟩:=b2v (d:=stR.d) cc
  exact(bad i hi).2
 ·apply Classical.byContradiction
  intro di
  have:=c7e (nOf p.W p.H) (u::b0j L) (M9.2 ⟨di,nd⟩) (fun x hx=>by
   rcases J8.1 hx with rfl|hx
   ·omega
   ·have:=rg x hx;omega)
  simp only[K3]at this
  omega
 ·have:=Ji.1 h3 s cc
  unfold g8a at this
  have:=Ji.1 (by simpa using this:s.l.any (g0v (b01 p r) s.c)=false) v hv
  simpa[g0v]using this
 ·have:=Ji.1 h4 s cc
  unfold j00 at this
  have:=Ji.1 (by simpa using this:(List.range 3).any (j02 s.c)=false) e.toNat (K1.2 Dt)
  have e':((e.toNat:Nat):Int)=e:=Dt
  simpa[j02,e']using this
def g4n(h:List Int)(q:Int×Nat):List Int:=h.set q.1.toNat (q.2:Int)
def c3r(L:List Stk):List (Int×Nat):=L.flatMap fun s=>s.l.zipIdx
def htL(L:List Stk)(n:Nat):List Int:=(c3r L).foldl g4n (List.replicate n 0)
theorem d0z:∀(l:List (Int×Nat)) (h:List Int),(l.foldl g4n h).length=h.length
 | [],_=>rfl
 |q::l,h=>by rw[Mi,d0z l];simp[g4n]
theorem c66(L:List Stk)(n:Nat):(htL L n).length=n:=by simp[htL,d0z]
theorem c9d:∀(l:List (Int×Nat)) (h:List Int) (v:Int),0≤v→(∀q∈l,0≤q.1∧q.1≠v)→(l.foldl g4n h).getD v.toNat 0=h.getD v.toNat 0
 | [],_,_,_,_=>rfl
 |q::l,h,v,hv,hq=>by
  rw[Mi,c9d l _ v hv (fun x hx=>hq x Ef)]
  have:=hq q Dv
  have bb:q.1.toNat≠v.toNat:=Dt
  simp[g4n,Jb bb]
theorem d98:∀(l:List (Int×Nat)) (h:List Int),(l.map (·.1)).Nodup→(∀q∈l,0≤q.1∧q.1<h.length)→∀q∈l,(l.foldl g4n h).getD q.1.toNat 0=q.2
 | [],_,_,_,q,hq=>by simp at hq
 |x::l,h,hn,hr,q,hq=>by
  rw[Mi]
  rw[Ma,M9]at hn
  rcases J8.1 hq with rfl|hq
  ·have hx:=hr q Dv
   rw[c9d l _ q.1 hx.1 (fun y hy=>⟨(hr y F4).1,fun e=>hn.1 (Ja.2 ⟨y,hy,e⟩)⟩)]
   have:q.1.toNat<h.length:=Dt
   simp[g4n,this]
  ·exact d98 l _ hn.2 (fun y hy=>by have:=hr y F4;simpa[g4n]using this) q hq
theorem d55(L:List Stk):(c3r L).map (·.1)=b0j L:=by
 unfold c3r b0j
 rw[List.map_flatMap]
 congr 1
 funext s
 simp
section
variable {p : Pt} {r : Mv} {L : List Stk}
theorem ht_at(S:SkOK p r L){s:Stk}(hs:s∈L){k:Nat}(hk:k<s.l.length):(htL L (nOf p.W p.H)).getD (s.l.getD k 0).toNat 0=k:=by
 have hN:=b1b S.hs
 have hm:(s.l.getD k 0,k)∈c3r L:=by
  refine Mf.2 ⟨s,hs,?_⟩
  rw[List.mem_zipIdx_iff_getElem?]
  simp[hk]
 have:=d98 (c3r L) (List.replicate (nOf p.W p.H) 0) (by rw[d55];exact S.nd) (fun q hq=>by
  have h1:q.1∈b0j L:=by rw[←d55];exact Ja.2 ⟨q,hq,rfl⟩
  have:=S.rg _ h1
  simp;omega) _ hm
 exact this
theorem d1u(S:SkOK p r L){u:Int}(h0:0≤u)(h:u<4*p.W*p.H):∃i k,i<L.length∧k<(L.getD i stR.d).l.length∧(L.getD i stR.d).l.getD k 0=u∧(b01 p r).getD u.toNat clR.d=(L.getD i stR.d).c:=by
 obtain⟨s,hs,hu⟩:=Mf.1 (S.all u h0 h)
 obtain⟨i,hi,rfl⟩:=b2v (d:=stR.d) hs
 obtain⟨k,hk,e⟩:=b2v (d:=(0:Int)) hu
 exact⟨i,k,hi,hk,e,S.im _ hs _ hu⟩
theorem g88(S:SkOK p r L){u v:Int}(hu:0≤u∧u<4*p.W*p.H)(hv:0≤v∧v<4*p.W*p.H)(hi:(b01 p r).getD u.toNat clR.d=(b01 p r).getD v.toNat clR.d)
 (hh:(htL L (nOf p.W p.H)).getD u.toNat 0=(htL L (nOf p.W p.H)).getD v.toNat 0):u=v:=by
 obtain⟨i,k,cw,m7,e1,c1⟩:=d1u S hu.1 hu.2
 obtain⟨j,m,hj1,t7,e2,c2⟩:=d1u S hv.1 hv.2
 rw[c1,c2]at hi
 have dj:i=j:=by
  rcases Lx i j with h|h|h
  ·have:=S.lt i j h hj1;rw[hi,b4x]at this;omega
  ·exact h
  ·have:=S.lt j i h cw;rw[hi,b4x]at this;omega
 subst dj
 have a1:=ht_at S (b0c (d:=stR.d) cw) m7
 have a2:=ht_at S (b0c (d:=stR.d) cw) t7
 rw[e1]at a1
 rw[e2]at a2
 have:k=m:=Dt
 subst this
 rw[←e1,←e2]
theorem j2e{m:Mv}{c:Cl}{e:Int}(hm:vM m)(hc:(-300≤c.x∧c.x≤300)∧(-300≤c.y∧c.y≤300)∧0≤c.q∧c.q≤3)(he:0≤e∧e<3):∃e',(0≤e'∧e'<3)∧cmv m (bey c e)=bey (cmv m c) e':=by
 have hb:=b9q hc.2.2 he
 rw[b34 hm Dt,b34 hm Dt]
 obtain⟨X,Y,Q⟩:=c
 simp only at hc
 refine⟨if e=0 then 0 else if m.t=0∨m.t=2∨m.t=5∨m.t=7 then e else 3-e,by split<;>(try split)<;>omega,?_⟩
 rcases b3i hc.2.2 with rfl|rfl|rfl|rfl<;>rcases b69 he with rfl|rfl|rfl<;>rcases c44 hm with h|h|h|h|h|h|h|h<;>rw[h]<;>
  (simp[bey,sq,tq,ndx,ndy,ndq,tb];try omega)
theorem j2u{c:Cl}{e e':Int}(hq:0≤c.q∧c.q≤3)(he:0≤e∧e<3)(dw:0≤e'∧e'<3)(h:bey c e=bey c e'):e=e':=by
 obtain⟨X,Y,Q⟩:=c
 simp only at hq
 rcases b3i hq with rfl|rfl|rfl|rfl<;>rcases b69 he with rfl|rfl|rfl<;>rcases b69 dw with rfl|rfl|rfl<;>first|rfl|(exfalso;revert h;simp[bey,ndx,ndy,ndq,tb])
theorem bey_ne{c:Cl}{e:Int}(hq:0≤c.q∧c.q≤3)(he:0≤e∧e<3):bey c e≠c:=by
 obtain⟨X,Y,Q⟩:=c
 simp only at hq
 rcases b3i hq with rfl|rfl|rfl|rfl<;>rcases b69 he with rfl|rfl|rfl<;>(intro h;revert h;simp[bey,ndx,ndy,ndq,tb])
def imI(p:Pt)(r:Mv)(u:Int):Cl:=(b01 p r).getD u.toNat clR.d
def plI(p:Pt)(r:Mv)(u:Int):Mv:=(b0b p r).getD u.toNat mvR.d
def c3u(p:Pt)(r:Mv)(u e:Int):Cl:=cmv (plI p r u) (bey (b02 p.W p.H u) e)
theorem b6r(hs:b0e p.W p.H=0){u:Int}(h0:0≤u)(h:u<4*p.W*p.H):(-300≤(b02 p.W p.H u).x∧(b02 p.W p.H u).x≤300)∧(-300≤(b02 p.W p.H u).y∧(b02 p.W p.H u).y≤300)∧0≤(b02 p.W p.H u).q∧(b02 p.W p.H u).q≤3:=by
 have:=c5b hs h0 h;omega
theorem c8t(S:SkOK p r L){u:Int}(h0:0≤u)(h:u<4*p.W*p.H):imI p r u=cmv (plI p r u) (b02 p.W p.H u)∧vM (plI p r u)∧vC (imI p r u):=by
 have hN:=b1b S.hs
 have h1:=S.P.im u.toNat Dt
 have e:((u.toNat:Nat):Int)=u:=Dt
 rw[e]at h1
 exact⟨h1.1,S.P.vm _ Dt,h1.2⟩
theorem d29(S:SkOK p r L){u e:Int}(h0:0≤u)(h:u<4*p.W*p.H)(he:0≤e∧e<3):vC (c3u p r u e)∧c3u p r u e≠imI p r u∧∃e',(0≤e'∧e'<3)∧c3u p r u e=bey (imI p r u) e':=by
 obtain⟨g1,g2,g3⟩:=c8t S h0 h
 obtain⟨e',dw,g4⟩:=j2e g2 (b6r S.hs h0 h) he
 have g5:c3u p r u e=bey (imI p r u) e':=by rw[g1];exact g4
 obtain⟨i,k,hi,hk,hu,hc⟩:=d1u S h0 h
 have hn:=S.nb _ (b0c (d:=stR.d) hi) e' dw.1 dw.2
 rw[←hc]at hn
 refine⟨?_,?_,e',dw,g5⟩
 ·rw[g5]
  have hb:=b9q g3.2.2 dw
  unfold b3t at hn
  split at hn
  ·split at hn
   ·rename_i h5
    unfold b0q at h5
    split at h5
    ·rename_i h6
     unfold vC
     have:(bey (imI p r u) e').x=ndx (imI p r u).q e'+(imI p r u).x:=rfl
     have:(bey (imI p r u) e').y=ndy (imI p r u).q e'+(imI p r u).y:=rfl
     have h7: -4096≤ndx (imI p r u).q e'+(imI p r u).x∧ndx (imI p r u).q e'+(imI p r u).x≤4096∧ -4096≤ndy (imI p r u).q e'+(imI p r u).y∧ndy (imI p r u).q e'+(imI p r u).y≤4096∧ndq (imI p r u).q e'≤3:=h6
     omega
    ·cases h5
   ·cases hn
  ·cases hn
 ·rw[g5];exact bey_ne g3.2.2 dw
theorem j21(S:SkOK p r L){u e e':Int}(h0:0≤u)(h:u<4*p.W*p.H)(he:0≤e∧e<3)(dw:0≤e'∧e'<3)(hh:c3u p r u e=c3u p r u e'):e=e':=by
 obtain⟨g1,g2,g3⟩:=c8t S h0 h
 have hc:=b3y S.hs h0 h
 have hw:=b6r S.hs h0 h
 have b1:=b9q hw.2.2 he
 have b2:=b9q hw.2.2 dw
 exact j2u hw.2.2 he dw (d7z g2 Fv Fv hh)
end
def b3g(p:Pt)(r:Mv)(L:List Stk):Bd:=⟨p,b0b p r,b01 p r,htL L (nOf p.W p.H)⟩
def b2w(b:Bd):Nat→List Sm
 |0=>[]
 |k+1=>b5m b ((k/3:Nat):Int) ((k%3:Nat):Int) (b2w b k)
def f9y(s:Sm)(d:Int):Cl:=if d=0 then s.a else s.b
def farC(s:Sm)(d:Int):Cl:=if d=0 then s.b else s.a
def inN(p:Pt)(u:Int):Prop:=0≤u∧u<4*p.W*p.H
def Goes(p:Pt)(r:Mv)(x y:Int)(c:Cl):Prop:=∃e,(0≤e∧e<3)∧c3u p r x e=c∧b0g p.W p.H x e=0∧y=b03 p.W p.H x e
def PsOK(p:Pt)(r:Mv)(s:Sm)(x:Pa):Prop:=(inN p x.a∧inN p x.b)∧(imI p r x.a=s.a∧imI p r x.b=s.b)∧Goes p r x.a x.b s.b∧Goes p r x.b x.a s.a
def LsOK(p:Pt)(r:Mv)(s:Sm)(x:Lo):Prop:=(x.s=0∨x.s=1)∧(inN p x.a∧inN p x.b)∧(imI p r x.a=f9y s x.s∧imI p r x.b=f9y s x.s)∧Goes p r x.a x.b (farC s x.s)∧Goes p r x.b x.a (farC s x.s)
structure SmOK (p:Pt) (r:Mv) (s:Sm):Prop where
 ab:b0t (b89 s.a) (b89 s.b)<0
 va:vC s.a
 vb:vC s.b
 ps:∀x∈s.ps,PsOK p r s x
 ls:∀x∈s.ls,LsOK p r s x
 en:∀x∈s.en,inN p x
section
variable {p : Pt} {r : Mv} {L : List Stk}
theorem imS_of(u:Int):imS (b3g p r L) u=imI p r u:=rfl
theorem j13(S:SkOK p r L){u e:Int}(hu:inN p u)(he:0≤e∧e<3):c1w (b3g p r L) u e=c3u p r u e:=by
 obtain⟨g1,g2,g3⟩:=c8t S hu.1 hu.2
 obtain⟨g4,_,_⟩:=d29 S hu.1 hu.2 he
 have h1:=g7w S.hs hu.1 hu.2 he
 have h2:b3t (ceX p.W p.H u) (ceY p.W p.H u) (ceQ p.W p.H u) e=0:=h1
 have e1:nbX (ceX p.W p.H u) (ceY p.W p.H u) (ceQ p.W p.H u) e=(bey (b02 p.W p.H u) e).x:=by simp[nbX,h2,bey,b02]
 have e2:nbY (ceX p.W p.H u) (ceY p.W p.H u) (ceQ p.W p.H u) e=(bey (b02 p.W p.H u) e).y:=by simp[nbY,h2,bey,b02]
 have e3:nbQ (ceX p.W p.H u) (ceY p.W p.H u) (ceQ p.W p.H u) e=(bey (b02 p.W p.H u) e).q:=by simp[nbQ,h2,bey,b02]
 have hw:=b6r S.hs hu.1 hu.2
 have hb:=b9q hw.2.2 he
 have ec:b0q (bey (b02 p.W p.H u) e).x (bey (b02 p.W p.H u) e).y (bey (b02 p.W p.H u) e).q=0:=Ge
 have ed:b0q (c3u p r u e).x (c3u p r u e).y (c3u p r u e).q=0:=by
  unfold vC at g4
  unfold b0q;rw[if_pos];omega
 have em:cmE (plI p r u).t (plI p r u).x (plI p r u).y (bey (b02 p.W p.H u) e).x (bey (b02 p.W p.H u) e).y (bey (b02 p.W p.H u) e).q=0:=by
  unfold cmE
  rw[Iw ⟨g2.2,ec⟩,Iw]
  exact ed
 show (⟨keep _ _,keep _ _,keep _ _⟩:Cl)=_
 simp only[b3g]
 rw[e1,e2,e3]
 have em':cmE ((b0b p r).getD u.toNat mvR.d).t ((b0b p r).getD u.toNat mvR.d).x ((b0b p r).getD u.toNat mvR.d).y (bey (b02 p.W p.H u) e).x (bey (b02 p.W p.H u) e).y (bey (b02 p.W p.H u) e).q=0:=em
 simp only[keep,em',K5]
 rfl
theorem j37{a b:Cl}(h:a≠b):b0t (b89 a) (b89 b)<0∨b0t (b89 b) (b89 a)<0:=by
 have:=b1g (b89 a) (b89 b)
 by_cases e:b0t (b89 a) (b89 b)=0
 ·exact absurd (g38 (b5x _ _ e)) h
 ·omega
theorem lohi{x y:Cl}(h:x≠y):b0t (b89 (loC x y)) (b89 (hiC x y))<0∧((loC x y=x∧hiC x y=y)∨(loC x y=y∧hiC x y=x)):=by
 unfold loC hiC
 rw[b77]
 have:=b1g (b89 x) (b89 y)
 rcases j37 h with h1|h1
 ·rw[Iy Dt,Iy Dt];exact⟨h1,.inl ⟨rfl,rfl⟩⟩
 ·rw[Iw Dt,Iw Dt];exact⟨h1,.inr ⟨rfl,rfl⟩⟩
theorem d38{s t:Sm}(h:b0x s=b0x t):s.a=t.a∧s.b=t.b:=by
 simp only[b0x,Ip]at h
 exact⟨Cl.ext' h.1 h.2.1 h.2.2.1,Cl.ext' h.2.2.2.1 h.2.2.2.2.1 h.2.2.2.2.2⟩
theorem d1d{S:List Sm}{q:List Int}(h:b5u S q=true):b0x (S.getD (b5y S q) sm0)=q:=by
 have hl:=b68 h
 have:=List.findIdx_getElem (p:=fun s=>decide (b0x s=q)) (xs:=S) (w:=hl)
 rw[It,Iv hl]
 unfold b5y
 simpa using this
theorem g0p(S:SkOK p r L){u e:Int}(hu:inN p u)(he:0≤e∧e<3)(hn:b0g p.W p.H u e=0)(hk:kdV p u e=0):
 inN p (b03 p.W p.H u e)∧imI p r (b03 p.W p.H u e)=c3u p r u e∧c3u p r (b03 p.W p.H u e) e=imI p r u∧b0g p.W p.H (b03 p.W p.H u e) e=0∧b03 p.W p.H (b03 p.W p.H u e) e=u:=by
 have hN:=b1b S.hs
 obtain⟨n1,n2⟩:=b56 S.hs hu.1 hu.2 he hn
 have hb:=d11 S.hs hu.1 hu.2 he hn
 have e0:((u.toNat:Nat):Int)=u:=by have:=hu.1;omega
 have h1:=S.P.pass u.toNat e (by have:=hu.1;have:=hu.2;omega) he (by rw[e0];exact hn) (by rw[e0];exact hk)
 rw[e0]at h1
 have h2:plI p r (b03 p.W p.H u e)=plI p r u:=h1
 have h3:=(c8t S n1.1 n1.2).1
 have h4:=(c8t S hu.1 hu.2).1
 refine⟨n1,?_,?_,hb.1,hb.2⟩
 ·rw[h3,h2,n2];rfl
 ·unfold c3u
  rw[h2,n2,d7g (b6r S.hs hu.1 hu.2).2.2 he,h4]
theorem g1e(S:SkOK p r L){u e:Int}(hu:inN p u)(he:0≤e∧e<3)(hn:b0g p.W p.H u e=0)(hk:kdV p u e≠0):
 inN p (b03 p.W p.H u e)∧imI p r (b03 p.W p.H u e)=imI p r u∧c3u p r (b03 p.W p.H u e) e=c3u p r u e∧b0g p.W p.H (b03 p.W p.H u e) e=0∧b03 p.W p.H (b03 p.W p.H u e) e=u:=by
 have hN:=b1b S.hs
 obtain⟨n1,n2⟩:=b56 S.hs hu.1 hu.2 he hn
 have hb:=d11 S.hs hu.1 hu.2 he hn
 have e0:((u.toNat:Nat):Int)=u:=by have:=hu.1;omega
 have h1:=S.P.loop u.toNat e (by have:=hu.1;have:=hu.2;omega) he (by rw[e0];exact hn) (by rw[e0];exact hk)
 rw[e0]at h1
 obtain⟨h1,h2⟩:=h1
 refine⟨n1,h1,?_,hb.1,hb.2⟩
 show cmv (plI p r (b03 p.W p.H u e)) (bey (b02 p.W p.H (b03 p.W p.H u e)) e)=cmv (plI p r u) (bey (b02 p.W p.H u) e)
 rw[n2,d7g (b6r S.hs hu.1 hu.2).2.2 he,←n2]
 exact h2
theorem add_ok(S:SkOK p r L){u e:Int}(hu:inN p u)(he:0≤e∧e<3){s:Sm}(h:SmOK p r s)(hc:(s.a=imI p r u∧s.b=c3u p r u e)∨(s.a=c3u p r u e∧s.b=imI p r u)):SmOK p r (d2y (b3g p r L) u e s):=by
 have bb:=(d29 S hu.1 hu.2 he).2.1
 unfold d2y
 show SmOK p r (if b0g p.W p.H u e=0 then _ else _)
 split
 rotate_left
 ·exact⟨h.ab,h.va,h.vb,h.ps,h.ls,fun x hx=>by
   rcases Jf.1 hx with hx|hx
   ·exact h.en x hx
   ·rw[Jk.1 hx];exact hu⟩
 rename_i hn
 show SmOK p r (if b03 p.W p.H u e<u then _ else _)
 split
 ·exact h
 rename_i h9
 show SmOK p r (if kdV p u e=0 then _ else _)
 split
 ·rename_i hk
  obtain⟨g1,g2,g3,g4,g5⟩:=g0p S hu he hn hk
  refine⟨h.ab,h.va,h.vb,fun x hx=> ?_,h.ls,h.en⟩
  rcases Jf.1 hx with hx|hx
  ·exact h.ps x hx
  ·rw[Jk]at hx
   have hx:x=if imI p r u=s.b then⟨b03 p.W p.H u e,u⟩else⟨u,b03 p.W p.H u e⟩:=hx
   rcases hc with⟨c1,c2⟩|⟨c1,c2⟩
   ·rw[Iy (by rw[c2];exact fun q=>bb q.symm)]at hx
    subst hx
    exact⟨⟨hu,g1⟩,⟨c1.symm,g2.trans c2.symm⟩,⟨e,he,c2.symm,hn,rfl⟩,⟨e,he,g3.trans c1.symm,g4,g5.symm⟩⟩
   ·rw[Iw c2.symm]at hx
    subst hx
    exact⟨⟨g1,hu⟩,⟨g2.trans c1.symm,c2.symm⟩,⟨e,he,g3.trans c2.symm,g4,g5.symm⟩,⟨e,he,c1.symm,hn,rfl⟩⟩
 ·rename_i hk
  obtain⟨g1,g2,g3,g4,g5⟩:=g1e S hu he hn hk
  refine⟨h.ab,h.va,h.vb,h.ps,fun x hx=> ?_,h.en⟩
  rcases Jf.1 hx with hx|hx
  ·exact h.ls x hx
  ·rw[Jk]at hx
   have key:∀d:Int,(d=0∨d=1)→f9y s d=imI p r u→farC s d=c3u p r u e→LsOK p r s ⟨d,u,b03 p.W p.H u e⟩∧LsOK p r s ⟨d,b03 p.W p.H u e,u⟩:=fun d hd h1 h2=>
    ⟨⟨hd,⟨hu,g1⟩,⟨h1.symm,g2.trans h1.symm⟩,⟨e,he,h2.symm,hn,rfl⟩,⟨e,he,g3.trans h2.symm,g4,g5.symm⟩⟩,
     ⟨hd,⟨g1,hu⟩,⟨g2.trans h1.symm,h1.symm⟩,⟨e,he,g3.trans h2.symm,g4,g5.symm⟩,⟨e,he,h2.symm,hn,rfl⟩⟩⟩
   have hx:x=⟨if imI p r u=s.b then 1 else 0,if(b3g p r L).ht.getD u.toNat 0<(b3g p r L).ht.getD (b03 p.W p.H u e).toNat 0 then u else b03 p.W p.H u e,if(b3g p r L).ht.getD u.toNat 0<(b3g p r L).ht.getD (b03 p.W p.H u e).toNat 0 then b03 p.W p.H u e else u⟩:=hx
   have fin:LsOK p r s ⟨if imI p r u=s.b then 1 else 0,u,b03 p.W p.H u e⟩∧LsOK p r s ⟨if imI p r u=s.b then 1 else 0,b03 p.W p.H u e,u⟩:=by
    rcases hc with⟨c1,c2⟩|⟨c1,c2⟩
    ·rw[Iy (by rw[c2];exact fun q=>bb q.symm)]
     exact key 0 (.inl rfl) (by simp[f9y,c1]) (by simp[farC,c2])
    ·rw[Iw c2.symm]
     exact key 1 (.inr rfl) (by simp[f9y,c2]) (by simp[farC,c1])
   rcases Classical.em ((b3g p r L).ht.getD u.toNat 0<(b3g p r L).ht.getD (b03 p.W p.H u e).toNat 0)with hq|hq
   ·rw[Iw hq,Iw hq]at hx
    rw[hx];exact fin.1
   ·rw[Iy hq,Iy hq]at hx
    rw[hx];exact fin.2
theorem at_ok(S:SkOK p r L){u e:Int}(hu:inN p u)(he:0≤e∧e<3){T:List Sm}(h:∀s∈T,SmOK p r s):(∀s∈atS T (imI p r u) (c3u p r u e),SmOK p r s)∧
 ∀s,b0x s=d14 (imI p r u) (c3u p r u e)→(s.a=imI p r u∧s.b=c3u p r u e)∨(s.a=c3u p r u e∧s.b=imI p r u):=by
 have bb:=(d29 S hu.1 hu.2 he).2.1
 have hl:=lohi (Ne.symm bb)
 have v1:=(c8t S hu.1 hu.2).2.2
 have v2:=(d29 S hu.1 hu.2 he).1
 refine⟨fun s hs=> ?_,fun s hs=> ?_⟩
 ·unfold atS at hs
  split at hs
  ·exact h s hs
  ·rcases Jf.1 hs with hs|hs
   ·exact h s hs
   ·rw[Jk.1 hs]
    refine⟨hl.1,?_,?_,fun x hx=>by simp at hx,fun x hx=>by simp at hx,fun x hx=>by simp at hx⟩
    ·rcases hl.2 with⟨e1,e2⟩|⟨e1,e2⟩
     ·show vC (loC _ _);rw[e1];exact v1
     ·show vC (loC _ _);rw[e1];exact v2
    ·rcases hl.2 with⟨e1,e2⟩|⟨e1,e2⟩
     ·show vC (hiC _ _);rw[e2];exact v2
     ·show vC (hiC _ _);rw[e2];exact v1
 ·obtain⟨e1,e2⟩:=d38 (t:=⟨loC (imI p r u) (c3u p r u e),hiC (imI p r u) (c3u p r u e),[],[],[]⟩) hs
  rw[e1,e2]
  exact hl.2
theorem mem_set{α:Type}{l:List α}{i:Nat}{x y:α}(h:y∈l.set i x):y=x∨y∈l:=by
 rcases Lb h with h|h
 ·exact .inr h
 ·exact .inl h
theorem j2k(S:SkOK p r L){u e:Int}(hu:inN p u)(he:0≤e∧e<3){T:List Sm}(h:∀s∈T,SmOK p r s):∀s∈b5m (b3g p r L) u e T,SmOK p r s:=by
 intro s hs
 unfold b5m at hs
 rw[imS_of,j13 S hu he]at hs
 obtain⟨h1,h2⟩:=at_ok S hu he h
 have hh:=c59 T (imI p r u) (c3u p r u e)
 have hk:=d1d hh
 rcases mem_set hs with rfl|hs
 ·exact add_ok S hu he (h1 _ (b0c (b68 hh))) (h2 _ hk)
 ·exact h1 s hs
theorem c4c(S:SkOK p r L):∀k,k≤3*nOf p.W p.H→∀s∈b2w (b3g p r L) k,SmOK p r s
 |0,_,s,hs=>by simp[b2w]at hs
 |k+1,hk,s,hs=>by
  have hN:=b1b S.hs
  exact j2k S (u:=((k/3:Nat):Int)) (e:=((k%3:Nat):Int)) ⟨Dt,Dt⟩ ⟨Dt,Dt⟩ (c4c S k Dt) s hs
theorem f87(S:SkOK p r L){x y z:Int}{c:Cl}(hx:inN p x)(h1:Goes p r x y c)(h2:Goes p r x z c):y=z:=by
 obtain⟨e,he,o1,_,rfl⟩:=h1
 obtain⟨e',dw,o2,_,rfl⟩:=h2
 rw[j21 S hx.1 hx.2 he dw (o1.trans o2.symm)]
theorem ps_inj(S:SkOK p r L){s:Sm}(h:SmOK p r s):∀x∈s.ps,∀y∈s.ps,c63 (htL L (nOf p.W p.H)) x=c63 (htL L (nOf p.W p.H)) y→x=y:=by
 intro x hx y hy e
 obtain⟨⟨a1,a2⟩,⟨i1,i2⟩,g1,_⟩:=h.ps x hx
 obtain⟨⟨b1,b2⟩,⟨j1,j2⟩,g2,_⟩:=h.ps y hy
 simp only[c63,Ip]at e
 have ea:x.a=y.a:=g88 S a1 b1 (show imI p r x.a=imI p r y.a by rw[i1,j1]) e
 rw[←ea]at g2
 have eb:=f87 S a1 g1 g2
 cases x;cases y
 simp only at ea eb
 rw[ea,eb]
theorem ls_inj(S:SkOK p r L){s:Sm}(h:SmOK p r s):∀x∈s.ls,∀y∈s.ls,c6d (htL L (nOf p.W p.H)) x=c6d (htL L (nOf p.W p.H)) y→x=y:=by
 intro x hx y hy e
 obtain⟨_,⟨a1,a2⟩,⟨i1,i2⟩,g1,_⟩:=h.ls x hx
 obtain⟨_,⟨b1,b2⟩,⟨j1,j2⟩,g2,_⟩:=h.ls y hy
 simp only[c6d,Ip]at e
 obtain⟨es,e⟩:=e
 have ea:x.a=y.a:=g88 S a1 b1 (show imI p r x.a=imI p r y.a by rw[i1,j1,es]) e
 rw[←ea,←es]at g2
 have eb:=f87 S a1 g1 g2
 cases x;cases y
 simp only at ea eb es
 rw[ea,eb,es]
theorem g08(T:List Sm)(x y:Cl):(atS T x y).length≤T.length+1:=by
 unfold atS
 split<;>simp
def d06(s:Sm)(k:Nat):Prop:=s.ps.length≤k∧s.ls.length≤k∧s.en.length≤k
theorem g3d{b:Bd}{u e:Int}{s:Sm}{k:Nat}(h:d06 s k):d06 (d2y b u e s) (k+1):=by
 unfold d06 at*
 unfold d2y
 repeat' split
 all_goals(try simp only[Ig])
 all_goals omega
theorem b3w(b:Bd):∀k,(b2w b k).length≤k∧∀s∈b2w b k,d06 s k
 |0=>⟨J2 _,fun s hs=>by simp[b2w]at hs⟩
 |k+1=>by
  obtain⟨h1,h2⟩:=b3w b k
  have ha:∀s∈atS (b2w b k) (imS b ((k/3:Nat):Int)) (c1w b ((k/3:Nat):Int) ((k%3:Nat):Int)),d06 s k:=by
   intro s hs
   unfold atS at hs
   split at hs
   ·exact h2 s hs
   ·rcases Jf.1 hs with hs|hs
    ·exact h2 s hs
    ·rw[Jk.1 hs];exact⟨J5 _,J5 _,J5 _⟩
  refine⟨?_,fun s hs=> ?_⟩
  ·show (b5m _ _ _ _).length≤_
   rw[f22]
   have:=g08 (b2w b k) (imS b ((k/3:Nat):Int)) (c1w b ((k/3:Nat):Int) ((k%3:Nat):Int))
   omega
  ·have hs:s∈b5m b ((k/3:Nat):Int) ((k%3:Nat):Int) (b2w b k):=hs
   unfold b5m at hs
   rcases mem_set hs with rfl|hs
   ·exact g3d (ha _ (b0c (b68 (c59 _ _ _))))
   ·have:=ha s hs
    unfold d06 at*;omega
theorem f7v(S:SkOK p r L){s:Sm}(h:SmOK p r s)(hz:d06 s 100000):f2n (b3g p r L) s:=by
 have hN:=b1b S.hs
 refine⟨hz,⟨fun x hx=> ?_,fun x hx=> ?_⟩,ps_inj S h,ls_inj S h⟩
 ·have:=(h.ps x hx).1.1
  unfold inN at this
  show 0≤x.a∧x.a<((htL L (nOf p.W p.H)).length:Int)
  rw[c66];omega
 ·have:=(h.ls x hx).2.1.1
  unfold inN at this
  show 0≤x.a∧x.a<((htL L (nOf p.W p.H)).length:Int)
  rw[c66];omega
end
end Go.Proofs.YtdblhepcmjecgaaGreatDoor.V
namespace Go.Proofs
open Go Go.Shelf Go.RowKit Go.Lib Go.Sort
shelf_lay_g SlLaysF0.n6 Slsf 6 at Tryz 106 as Tryz.sortKey
end Go.Proofs
namespace Go.Proofs.YtdblhepcmjecgaaGreatDoor.V
open Go Go.Sort Go.Proofs Go.Shelf
abbrev nOf1:FuncId:=107
def kOf1:Kon
 | [.agg [.int .i64 a,.int .i64 b,.int .u8 c,.int .i64 d,.int .i64 e,.int .u8 f],.agg [.int .i64 a',.int .i64 b',.int .u8 c',.int .i64 d',.int .i64 e',.int .u8 f']]=>some ((inK .u8 c∧inK .u8 f)∧inK .u8 c'∧inK .u8 f',.int .i64 (orL [b0v a b c a' b' c',b0v d e f d' e' f']))
 |_=>none
def FOf1:Fam:=⟨(Int×Int×Int×Int×Int×Int)×Int×Int×Int×Int×Int×Int,fun((a,b,c,d,e,f),a',b',c',d',e',f')=>[.agg [.int .i64 a,.int .i64 b,.int .u8 c,.int .i64 d,.int .i64 e,.int .u8 f],.agg [.int .i64 a',.int .i64 b',.int .u8 c',.int .i64 d',.int .i64 e',.int .u8 f']],
 fun((_,_,c,_,_,f),_,_,c',_,_,f')=>(inK .u8 c∧inK .u8 f)∧inK .u8 c'∧inK .u8 f',fun((a,b,c,d,e,f),a',b',c',d',e',f')=>.int .i64 (orL [b0v a b c a' b' c',b0v d e f d' e' f'])⟩
theorem pOf1:PS nOf1 kOf1:=by
 refine con [(b33,b1t),(nOr,j0w)] (by simpa using⟨b8s,pOrL⟩) FOf1 (fun _ _=>none) kOf1 ?_ ?_ Go.Proofs.Tryz.func107 Du Du Du ?_
 ·intro args pre s h hp
  unfold kOf1 at h
  split at h
  ·rename_i a b c d e f a' b' c' d' e' f'
   cases h
   exact⟨((a,b,c,d,e,f),a',b',c',d',e',f'),by simp[FOf1,b2h,SV.le2,SV.le1,b24,SV.le0],hp,rfl⟩
  ·cases h
 ·exact Bv
 ·rintro⟨⟨a,b,c,d,e,f⟩,a',b',c',d',e',f'⟩ hp
  replace hp:(inK .u8 c∧inK .u8 f)∧inK .u8 c'∧inK .u8 f':=hp
  refine wlk _ ?_;(repeat' first|constructor|refine Iu fun hu=> ?_|intro h);all_goals refine Lm ?_
  all_goals(first
   |exact⟨hp.1.1,hp.2.1⟩
   |exact⟨hp.1.2,hp.2.2⟩
   |rfl
   |exact⟨fun i hi=>match i,hi with
    |0,_=>rfl
    |1,_=>rfl,Dt⟩
   |omega
   |skip)
def c3z(k:Ky):List Int:=b89 k.a++b89 k.b
theorem f6b{x y:Ky}(h:c3z x=c3z y):x=y:=by
 simp only[c3z,b89,L2,List.nil_append,Ip]at h
 cases x;cases y
 simp only at h
 rw[Cl.ext' h.2.1 h.1 h.2.2.1,Cl.ext' h.2.2.2.2.1 h.2.2.2.1 h.2.2.2.2.2]
theorem d4v:∀(a b c d:List Int),a.length=b.length→b0t (a++c) (b++d)=if b0t a b=0 then b0t c d else b0t a b
 | [],[],c,d,_=>by simp[b0t]
 |x::a,y::b,c,d,h=>by
  by_cases e:x=y
  ·simp only[L2,b0t,e,K5]
   exact d4v a b c d E1
  ·have bb:b3f x y≠0:=by unfold b3f;split<;>(try split)<;>omega
   simp[b0t,e,bb]
 | [],_::_,_,_,h=>E7
 |_::_,[],_,_,h=>E7
theorem j2s(x y:Ky):orL [b0v x.a.x x.a.y x.a.q y.a.x y.a.y y.a.q,b0v x.b.x x.b.y x.b.q y.b.x y.b.y y.b.q]=b0t (c3z x) (c3z y):=by
 rw[b77,b77,c3z,c3z,d4v (b89 x.a) (b89 y.a) (b89 x.b) (b89 y.b) rfl]
 simp only[orL]
 split
 ·split<;>simp_all
 ·rfl
abbrev f6h:FuncId:=106
def kyQ(k:Ky):Prop:=inK .u8 k.a.q∧inK .u8 k.b.q
def d1r:d20:=fun _ sz n g rest=>match rest with
 | [.clo f []]=>if f=nOf1∧sz=6 then some (kyR.is n g∧n≤100000∧(∀x∈kyR.lst n g,kyQ x),kyR.row (b2d c3z (kyR.lst n g)),false)else none
 |_=>none
theorem j2z:ES f6h d1r:=by
 refine f5d kyR Go.Proofs.Tryz.sortKey rfl ⟨_,Go.Proofs.Tryz.func106,Du,Du⟩ (fun w=>Go.Proofs.Tryz.isAgg211 w) (fun w=>Go.Proofs.Tryz.sizeOf211 w) (fun _=>rfl) (fun x s hs=> ?_) kOf1 pOf1 (enters_of Go.Proofs.Tryz.func107 Du rfl) d1r ?_
 ·simp[kyR]at hs
  rcases hs with rfl|rfl|rfl|rfl|rfl|rfl<;>exact⟨_,_,rfl⟩
 ·intro T sz n g rest pre g' r h
  unfold d1r at h
  split at h
  rotate_left
  ·cases h
  rename_i f
  split at h
  rotate_left
  ·cases h
  rename_i hc
  obtain⟨rfl,rfl⟩:=hc
  cases h
  refine⟨rfl,rfl,[],c3z,rfl,fun hp=>⟨hp.1,hp.2.1,fun x hx y hy=> ?_,fun x _ y _ e=>f6b e,rfl⟩⟩
  refine⟨(inK .u8 x.a.q∧inK .u8 x.b.q)∧inK .u8 y.a.q∧inK .u8 y.b.q,?_,hp.2.2 x hx,hp.2.2 y hy⟩
  show kOf1 [.agg [.int .i64 x.a.x,.int .i64 x.a.y,.int .u8 x.a.q,.int .i64 x.b.x,.int .i64 x.b.y,.int .u8 x.b.q],.agg [.int .i64 y.a.x,.int .i64 y.a.y,.int .u8 y.a.q,.int .i64 y.b.x,.int .i64 y.b.y,.int .u8 y.b.q]]=_
  simp only[kOf1,j2s]
def d2v(s:Sm):List SV:=[.int .i64 s.a.x,.int .i64 s.a.y,.int .u8 s.a.q,.int .i64 s.b.x,.int .i64 s.b.y,.int .u8 s.b.q,.sl 2 s.ps.length (paR.row s.ps) none,.sl 3 s.ls.length (loR.row s.ls) none,.sl 1 s.en.length (b04.row s.en) none]
def smRd:List SV→Sm
 | [.int _ a,.int _ b,.int _ c,.int _ d,.int _ e,.int _ f,x,y,z]=>⟨⟨a,b,c⟩,⟨d,e,f⟩,match paR.as x with|some (n,f)=>paR.lst n f|none=>[],match loR.as y with|some (n,f)=>loR.lst n f|none=>[],match b04.as z with|some (n,f)=>b04.lst n f|none=>[]⟩
 |_=>sm0
theorem j0q(s:Sm):smRd (d2v s)=s:=by
 have h1:paR.as (.sl 2 s.ps.length (paR.row s.ps) none)=some (s.ps.length,paR.row s.ps):=rfl
 have h2:loR.as (.sl 3 s.ls.length (loR.row s.ls) none)=some (s.ls.length,loR.row s.ls):=rfl
 have h3:b04.as (.sl 1 s.en.length (b04.row s.en) none)=some (s.en.length,b04.row s.en):=rfl
 simp only[smRd,d2v,h1,h2,h3,RT.lst_row]
def smR:RT Sm:=⟨9,d2v,smRd,sm0,j0q⟩
def ofS(p:Pt)(r:Mv)(L:List Stk):List Sm:=if b2j p r L=0 then
    (b2d c3z ((b2w (b3g p r L) (3*nOf p.W p.H)).map d5y)).map fun k=>b9k (b3g p r L) ((b2w (b3g p r L) (3*nOf p.W p.H)).getD (b5y (b2w (b3g p r L) (3*nOf p.W p.H)) (b0x (sN k.a k.b))) sm0)
 else []
end Go.Proofs.YtdblhepcmjecgaaGreatDoor.V
namespace Go.Proofs.YtdblhepcmjecgaaGreatDoor.V
open Go
abbrev nSeOf:FuncId:=62
def rSeOf(p:Pt)(r:Mv)(L:List Stk):SV:=.tup [.sl 9 (ofS p r L).length (smR.row (ofS p r L)) none,.int .i64 (b2j p r L)]
def g3i:Kon
 | [x,y,z]=>match g86 [x,y],d2w z with
   |some q,some s=>some (q.1∧s.1∧(∀t∈s.2,inK .u8 t.c.q)∧(b0j s.2).length≤100000,rSeOf q.2.1 q.2.2 s.2)
   |_,_=>none
 |_=>none
def FSeOf:Fam:=⟨Pt×Mv×List Stk,fun(p,r,L)=>[b6i p,g2n r,b7u L],fun(p,r,L)=>b5n p r∧b2b L,fun(p,r,L)=>rSeOf p r L⟩
def pfP(L:List Stk)(i k:Nat):List (Int×Nat):=c3r (L.take i)++((L.getD i stR.d).l.zipIdx).take k
def htP(L:List Stk)(n i k:Nat):List Int:=(pfP L i k).foldl g4n (List.replicate n 0)
theorem c5v(L:List Stk)(n i k:Nat):(htP L n i k).length=n:=by simp[htP,d0z]
theorem f1u(L:List Stk)(i:Nat):pfP L i 0=c3r (L.take i):=by simp[pfP]
theorem g4a{L:List Stk}{i:Nat}(hi:i<L.length):pfP L i (L.getD i stR.d).l.length=pfP L (i+1) 0:=by
 rw[f1u]
 have:L.take (i+1)=L.take i++[L.getD i stR.d]:=by
  rw[Kn]
  simp[hi]
 rw[this]
 unfold pfP c3r
 rw[List.flatMap_append]
 have e:List.take (L.getD i stR.d).l.length (L.getD i stR.d).l.zipIdx=(L.getD i stR.d).l.zipIdx:=Ki Dv
 rw[e]
 simp
theorem g5m{L:List Stk}{n i k:Nat}(hk:k<(L.getD i stR.d).l.length):htP L n i (k+1)=(htP L n i k).set ((L.getD i stR.d).l.getD k 0).toNat (k:Int):=by
 have:pfP L i (k+1)=pfP L i k++[((L.getD i stR.d).l.getD k 0,k)]:=by
  unfold pfP
  rw[Kn,←Li]
  congr 1
  rw[List.getElem?_zipIdx,Iv hk,It (l:=(L.getD i stR.d).l),Iv hk]
  simp
 unfold htP
 rw[this,List.foldl_append]
 rfl
theorem j3f(L:List Stk)(n:Nat):htP L n L.length 0=htL L n:=by
 unfold htP htL
 rw[f1u,Ki (J2 _)]
def f9q(p:Pt)(r:Mv)(ht:List Int)(S:List Sm)(ks:SV)(rest:List Blk):List Blk:=.cells 26 [.int .i64 p.W,.int .i64 p.H,.sl 3 p.l.length (b20 p.l) none]::.cells 28 [.int .u8 r.t,.int .i64 r.x,.int .i64 r.y]::.row 3 1 ht.length (b04.row ht) none::
 .pmap (.ints [.i64,.i64,.u8,.i64,.i64,.u8]) 5 (b5u S) (b5y S)::
 .cells 207 [.int .i64 p.W,.int .i64 p.H,.sl 3 p.l.length (b20 p.l) none,.sl 3 (b0b p r).length (mvR.row (b0b p r)) none,.sl 3 (b01 p r).length (clR.row (b01 p r)) none,.osl 2,.omp 3,ks]::
 .fam 143 [(287,2),(146,3),(3,1)] S.length none (fun i=>b75 (S.getD i sm0))::rest
theorem g3t{L:List Stk}{n i:Nat}(hi:i<L.length):htP L n i (L.getD i stR.d).l.length=htP L n (i+1) 0:=by
 unfold htP;rw[g4a hi]
theorem d71{l:List Int}{m:Nat}{x:Int}(h:m<l.length)(j:Nat):b9m (decide (j=m)) [SV.int .i64 x] (b04.row l j)=b04.row (l.set m x) j:=by
 by_cases e:j=m
 ·rw[Jw e,b8n b04 h e];rfl
 ·rw[Jq e,c2p b04 e];rfl
theorem f7y(S:List Sm):kyR.lst S.length (b3c S)=S.map d5y:=by
 have h:b3c S=kyR.row (S.map d5y):=Mj (f9w S)
 have:=RT.lst_row kyR (S.map d5y)
 rw[h]
 simpa using this
theorem g3w(s:Sm):b0x (sN (d5y s).a (d5y s).b)=b0x s:=rfl
theorem d3q(b:Bd):∀k,((b2w b k).map b0x).Nodup
 |0=>List.nodup_nil
 |k+1=>by
  have ih:=d3q b k
  show ((b5m b _ _ _).map b0x).Nodup
  rw[c4q]
  unfold atS
  split
  ·exact ih
  ·rename_i h
   rw[List.map_append]
   refine List.nodup_append.2 ⟨ih,Dv,fun x hx y hy e=> ?_⟩
   simp only[Ma,List.map_nil,Jk]at hy
   subst e
   subst hy
   apply h
   rw[b7d]
   exact Jc.2 ⟨_,hx,by simp[d14]⟩
def c7x(b:Bd)(S:List Sm)(K:List Ky):Nat→List Sm
 |0=>S
 |i+1=>(c7x b S K i).set (b5y (c7x b S K i) (b0x (sN (K.getD i kyR.d).a (K.getD i kyR.d).b))) (b9k b ((c7x b S K i).getD (b5y (c7x b S K i) (b0x (sN (K.getD i kyR.d).a (K.getD i kyR.d).b))) sm0))
def b27(p:Pt)(r:Mv)(L:List Stk):List Sm:=b2w (b3g p r L) (3*nOf p.W p.H)
def b1r(p:Pt)(r:Mv)(L:List Stk):List Ky:=b2d c3z ((b27 p r L).map d5y)
section
variable {b : Bd} {S : List Sm} {K : List Ky}
def qK(K:List Ky)(i:Nat):List Int:=b0x (sN (K.getD i kyR.d).a (K.getD i kyR.d).b)
theorem c4i:∀i,(c7x b S K i).map b0x=S.map b0x
 |0=>rfl
 |i+1=>by
  show ((c7x b S K i).set _ _).map b0x=_
  rw[c0u _ _ _ (f2q b _),c4i i]
theorem f18(i:Nat):(c7x b S K i).length=S.length:=by simpa using Lc List.length (c4i (b:=b) (S:=S) (K:=K) i)
theorem g4d(i:Nat)(q:List Int):b5u (c7x b S K i) q=b5u S q:=by rw[b7d,b7d,c4i]
theorem c1c(i:Nat)(q:List Int):b5y (c7x b S K i) q=b5y S q:=by rw[b99,b99,c4i]
theorem d0f(hK:∀i,i<K.length→b5u S (qK K i)=true)(hn:∀i j,i<j→j<K.length→qK K i≠qK K j):∀i j,i≤j→j<K.length→(c7x b S K i).getD (b5y S (qK K j)) sm0=S.getD (b5y S (qK K j)) sm0
 |0,j,_,_=>rfl
 |i+1,j,h1,h2=>by
  show ((c7x b S K i).set (b5y (c7x b S K i) (qK K i)) _).getD _ _=_
  have hi:=hK i Dt
  have h9:b5y (c7x b S K i) (qK K i)<(c7x b S K i).length:=by rw[c1c,f18];exact b68 hi
  rw[b8q h9,c1c,Iy,d0f hK hn i j Dt h2]
  intro e
  have e1:=d1d hi
  have e2:=d1d (hK j h2)
  rw[e]at e2
  exact hn i j Dt h2 (e1.symm.trans e2)
end
theorem f4q(b:Bd){u e:Nat}(he:e<3):b2w b (3*u+e+1)=b5m b (u:Int) (e:Int) (b2w b (3*u+e)):=by
 show b5m b _ _ _=_
 rw[show (3*u+e)/3=u from Dt,show (3*u+e)%3=e from Dt]
section
variable {p : Pt} {r : Mv} {L : List Stk}
theorem g2z{k:Ky}:k∈b1r p r L↔∃s∈b27 p r L,d5y s=k:=by
 unfold b1r
 rw[b83,Ja]
theorem c14{i:Nat}(h:i<(b1r p r L).length):b5u (b27 p r L) (qK (b1r p r L) i)=true:=by
 obtain⟨s,hs,e⟩:=g2z.1 (b0c (d:=kyR.d) h)
 unfold qK b5u
 rw[←e]
 exact Jc.2 ⟨s,hs,by simp[g3w]⟩
theorem qK_inj{x y:Ky}(h:b0x (sN x.a x.b)=b0x (sN y.a y.b)):x=y:=by
 obtain⟨h1,h2⟩:=d38 h
 cases x;cases y
 simp only at h1 h2
 rw[h1,h2]
theorem f6c{i j:Nat}(h1:i<j)(h2:j<(b1r p r L).length):qK (b1r p r L) i≠qK (b1r p r L) j:=by
 have nd:(b1r p r L).Nodup:=by
  have h0:((b27 p r L).map d5y).Nodup:=by
   have:=d3q (b3g p r L) (3*nOf p.W p.H)
   have e:((b27 p r L).map d5y).map (fun k=>b0x (sN k.a k.b))=(b27 p r L).map b0x:=by rw[M6];rfl
   have h2:(((b27 p r L).map d5y).map (fun k=>b0x (sN k.a k.b))).Nodup:=by rw[e];exact this
   exact(L9.1 h2).imp (fun bb e=>bb (by rw[e]))
  exact(b30 _ _).nodup_iff.2 h0
 intro e
 have:=qK_inj e
 rw[It,It,Iv Dt,Iv h2]at this
 exact(K8.1 (show List.Pairwise (fun x y=>x≠y) _ from nd)) i j Dt h2 h1 this
theorem j0g(S:SkOK p r L)(hp:b5n p r){k u e:Nat}(hk:k≤3*nOf p.W p.H)(hu:u<nOf p.W p.H)(he:e<3):bdIn (b3g p r L) (b2w (b3g p r L) k) (u:Int) (e:Int):=by
 have hN:=b1b S.hs
 have hs:=b3w (b3g p r L) k
 refine⟨hp.1,⟨Dt,Dt⟩,⟨Dt,?_,?_,?_⟩,fun hn=> ?_,d4t hp.2.1,fun c hc=> ?_,Dt,fun s h=> ?_⟩
 ·show (u:Int)<((b0b p r).length:Int);rw[S.P.pl];omega
 ·show (u:Int)<((b01 p r).length:Int);rw[S.P.il];omega
 ·show (u:Int)<((htL L (nOf p.W p.H)).length:Int);rw[c66];omega
 ·have:=(b56 S.hs (i:=(u:Int)) (e:=(e:Int)) Dt Dt ⟨Dt,Dt⟩ hn).1
  show 0≤b03 p.W p.H u e∧b03 p.W p.H u e<((htL L (nOf p.W p.H)).length:Int)
  rw[c66];omega
 ·obtain⟨i,hi,rfl⟩:=b2v (d:=clR.d) (show c∈b01 p r from hc)
  have b7:i<nOf p.W p.H:=by rw[←S.P.il];exact hi
  have:=(S.P.im i b7).2.2.2
  show 0≤_∧_≤255
  omega
 ·have:=hs.2 s h
  unfold d06 at this
  omega
theorem seam_q(S:SkOK p r L){k:Nat}(hk:k≤3*nOf p.W p.H):∀x∈(b2w (b3g p r L) k).map d5y,kyQ x:=by
 intro x hx
 obtain⟨s,hs,rfl⟩:=Ja.1 hx
 have h:=c4c S k hk s hs
 have h1:=h.va.2.2
 have h2:=h.vb.2.2
 exact⟨⟨h1.1,by show s.a.q≤255;omega⟩,⟨h2.1,by show s.b.q≤255;omega⟩⟩
theorem c47:(b1r p r L).length=(b27 p r L).length:=by simp[b1r,b0p]
theorem g8f(h:b2j p r L=0):ofS p r L=(b1r p r L).map fun k=>b9k (b3g p r L) ((b27 p r L).getD (b5y (b27 p r L) (b0x (sN k.a k.b))) sm0):=by
 unfold ofS
 rw[Iw h]
 rfl
theorem g0m(h:b2j p r L=0){i:Nat}(hi:i<(b1r p r L).length):(ofS p r L).getD i sm0=b9k (b3g p r L) ((b27 p r L).getD (b5y (b27 p r L) (qK (b1r p r L) i)) sm0):=by
 rw[g8f h,It,Jv,Iv hi]
 simp only[Ik,qK,It,Iv hi]
theorem d6p(h:b2j p r L=0):(ofS p r L).length=(b1r p r L).length:=by rw[g8f h,Js]
end
def ISeOf:Pt×Mv×List Stk→Nat→Option Inv
 |(p,r,L),8=>some {β:=Nat,ok:=fun i=>i≤L.length,st:=fun i=>⟨[⟨54,none,.int .i64 i⟩,⟨53,none,.int .i64 L.length⟩,⟨52,none,.sl 4 L.length (stR.row L) none⟩,⟨9,none,.own 4 0⟩],f9q p r (htP L (nOf p.W p.H) i 0) [] (.con (.slice none 0 0)) []⟩,μ:=fun i=>L.length-i,sub:=fun i=>some fun|11=>some {β:=Nat,ok:=fun k=>k≤(L.getD i stR.d).l.length,st:=fun k=>⟨[⟨61,none,.int .i64 k⟩,⟨60,none,.int .i64 (L.getD i stR.d).l.length⟩,⟨59,none,.sl 1 (L.getD i stR.d).l.length (b04.row (L.getD i stR.d).l) none⟩,⟨54,none,.int .i64 i⟩,⟨53,none,.int .i64 L.length⟩,⟨52,none,.sl 4 L.length (stR.row L) none⟩,⟨9,none,.own 4 0⟩],f9q p r (htP L (nOf p.W p.H) i k) [] (.con (.slice none 0 0)) []⟩,μ:=fun k=>(L.getD i stR.d).l.length-k}|_=>none}
 |(p,r,L),17=>some {β:=Nat,ok:=fun u=>u≤nOf p.W p.H,st:=fun u=>⟨[⟨80,none,.int .i64 u⟩,⟨79,none,.int .i64 (nOf p.W p.H)⟩,⟨9,none,.own 4 0⟩],f9q p r (htL L (nOf p.W p.H)) (b2w (b3g p r L) (3*u)) (.osl 6) [.row 211 6 (b2w (b3g p r L) (3*u)).length (b3c (b2w (b3g p r L) (3*u))) none]⟩,μ:=fun u=>nOf p.W p.H-u,nl:=[.cell 4 7 211 6],sub:=fun u=>some fun|20=>some {β:=Nat,ok:=fun e=>e≤3,st:=fun e=>⟨[⟨83,none,.int .u8 e⟩,⟨14,none,.int .i64 u⟩,⟨80,none,.int .i64 u⟩,⟨79,none,.int .i64 (nOf p.W p.H)⟩,⟨9,none,.own 4 0⟩],f9q p r (htL L (nOf p.W p.H)) (b2w (b3g p r L) (3*u+e)) (.osl 6) [.row 211 6 (b2w (b3g p r L) (3*u+e)).length (b3c (b2w (b3g p r L) (3*u+e))) none]⟩,μ:=fun e=>3-e}|_=>none}
 |(p,r,L),28=>some {β:=Nat,ok:=fun i=>i≤(b1r p r L).length,st:=fun i=>⟨[⟨108,none,.int .i64 i⟩,⟨107,none,.int .i64 (b1r p r L).length⟩,⟨106,none,.osl 6⟩,⟨16,none,.osl 7⟩,⟨9,none,.own 4 0⟩],f9q p r (htL L (nOf p.W p.H)) (c7x (b3g p r L) (b27 p r L) (b1r p r L) i) (.osl 6) [.row 211 6 (b1r p r L).length (kyR.row (b1r p r L)) none,.row 143 9 (b1r p r L).length (fun j=>d2v (upto (fun j=>(ofS p r L).getD j sm0) (fun _=>sm0) i j)) none]⟩,μ:=fun i=>(b1r p r L).length-i}
 |_,_=>none
def smCs(s:Sm):List SV:=[.int .i64 s.a.x,.int .i64 s.a.y,.int .u8 s.a.q,.int .i64 s.b.x,.int .i64 s.b.y,.int .u8 s.b.q,.sl 2 s.ps.length (paR.row s.ps) (some s.ps.length),.sl 3 s.ls.length (loR.row s.ls) (some s.ls.length),.sl 1 s.en.length (b04.row s.en) (some s.en.length)]
theorem j2w{A:Nat→Sm}{B:Nat→Sm}{i:Nat}{s:Sm}(hs:A i=s)(j:Nat):d0g (b9m (decide (j=i)) (smCs s) (d2v (upto A B i j))) (d2v (upto A B (i+1) j)):=by
 by_cases e:j=i
 ·subst e
  rw[Jw rfl,show upto A B (j+1) j=s by simp[upto,hs]]
  generalize upto A B j j=t
  right
  simp[smCs,d2v,b9m,d3p,lfL,SV.lf,b3q]
 ·rw[Jq e,show upto A B (i+1) j=upto A B i j by unfold upto;by_cases h:j<i;simp[h,show j<i+1 from Dt];simp[h,show¬j<i+1 from Dt]]
  left
  rfl
theorem j46:d0g [.int .i64 0,.int .i64 0,.int .u8 0,.int .i64 0,.int .i64 0,.int .u8 0,.con (.slice none 0 0),.con (.slice none 0 0),.con (.slice none 0 0)] (d2v sm0):=by
 right
 simp[d2v,sm0,lfL,SV.lf,b3q]
theorem pSeOf:PS nSeOf g3i:=by
 refine f04 {l:=[(d40,c1r),(d97,c8j),(f7q,d6v),(c2w,b9y)],x:=[(f6h,d1r)],h:=[(g9f,f1b),(f1c,c4h)],c2:=true,gr:=fun id=>bif Nat.beq id 4 then [.newFam 3 143 [(287,2),(146,3),(3,1)]]else []} ⟨by simpa using⟨f9h,d9j,j2q,c7g⟩,by simpa using j2z,by simpa using⟨pBMeet,g46⟩⟩ FSeOf ISeOf g3i ?_ ?_ Go.Proofs.Tryz.func62 Du Du Du ?_
 ·intro args pre s h hp
  unfold g3i at h
  split at h
  ·rename_i x y z
   split at h
   ·rename_i q t h1 h2
    cases h
    obtain⟨q,p,r⟩:=q
    obtain⟨u,L⟩:=t
    obtain⟨a1,a2⟩:=d68 h1 hp.1
    obtain⟨b1,b2⟩:=b4j h2 hp.2.1
    exact Dn
   ·cases h
  ·cases h
 ·exact Bw
 ·rintro⟨p,r,L⟩ ⟨bc,bm⟩
  have hl:=bm.1.1
  have hS:b2j p r L=0→SkOK p r L:=fun h=>f3x h bc.2.1 bm.2.1
  have hN:b2j p r L=0→(nOf p.W p.H:Int)=4*p.W*p.H∧nOf p.W p.H≤1024∧4≤nOf p.W p.H:=fun h=>b1b (hS h).hs
  have hC:b2j p r L=0→cnt p.W p.H=(nOf p.W p.H:Int):=fun h=>by rw[(hN h).1];simp[cnt,(hS h).hs]
  have hE:b2j p r L≠0→ofS p r L=[]:=fun h=>by unfold ofS;rw[if_neg h]
  refine wlk _ ?_;(repeat' first|constructor|refine Iu fun hu=> ?_|intro h);all_goals refine Lm ?_
  all_goals(try simp only[b00,RT.lst_row,b6g,b6f]at*)
  all_goals(first
   |exact Bf
   |exact Bn
   |exact fun _=>Ix
   |rfl
   |(rw[hE Dx];rfl)
   |(have:=hC Dx;have:=hN Dx;refine⟨Dt,Dt,c34 Du Dt Dt,Dt⟩)
   |skip)
  have h0:b2j p r L=0:=Dx
  have c0:=hC h0
  have n0:=hN h0
  refine⟨(0:Nat),J5 _,?_,?_⟩
  ·refine wlk _ ?_;(repeat' first|constructor|refine Iu fun hu=> ?_|intro h);all_goals refine Lm ?_
   all_goals(try simp only[]at*)
   all_goals(first
    |exact Ae
    |(rw[c5v];omega)
    |exact Ag
    |(intro j hj;show [SV.int .i64 0]=b04.sv _;rw[show htP L (nOf p.W p.H) 0 0=List.replicate (nOf p.W p.H) 0 from rfl];simp only[It,List.getElem?_replicate];split<;>rfl)
    |skip)
  ·intro i hi
   replace hi:i≤L.length:=hi
   have hg:=b45 bm.1 i
   have c6:i<L.length→∀v∈(L.getD i stR.d).l,0≤v∧v<(nOf p.W p.H:Int):=fun hi v hv=>by
    have:=(hS h0).rg v (Mf.2 ⟨_,b0c hi,hv⟩)
    omega
   refine wlk _ ?_;(repeat' first|constructor|refine Iu fun hu=> ?_|intro h);all_goals refine Lm ?_
   all_goals(try simp only[I8]at*)
   all_goals(first|omega|skip)
   ·have b7:i<L.length:=Dt
    have c6:=c6 b7
    refine⟨(0:Nat),J5 _,?_,?_⟩
    ·refine wlk _ ?_;(repeat' first|constructor|refine Iu fun hu=> ?_|intro h);all_goals refine Lm ?_
     all_goals first|exact Ae|exact Ag|skip
    ·intro k hk
     replace hk:k≤(L.getD i stR.d).l.length:=hk
     have hv:k<(L.getD i stR.d).l.length→0≤(L.getD i stR.d).l.getD k 0∧(L.getD i stR.d).l.getD k 0<(nOf p.W p.H:Int):=fun h=>c6 _ (b0c h)
     have b8:=c5v L (nOf p.W p.H) i k
     refine wlk _ ?_;(repeat' first|constructor|refine Iu fun hu=> ?_|intro h);all_goals refine Lm ?_
     all_goals(try simp only[I8]at*)
     all_goals(first
      |exact An
      |(have:=hv Dt;show 0≤_∧_<((htP L (nOf p.W p.H) i k).length:Int);rw[b8];exact this)
      |(have:=hv Dt;show ((L.getD i stR.d).l.getD k 0).toNat<_;rw[b8];omega)
      |skip)
     ·have cm:k<(L.getD i stR.d).l.length:=Dt
      have hvv:=hv cm
      refine⟨k+1,by show k+1≤_;omega,Gg,?_⟩
      refine wlk _ ?_;(repeat' first|constructor|refine Iu fun hu=> ?_|intro h);all_goals refine Lm ?_
      all_goals(first
       |exact Ae
       |(rw[c5v,c5v])
       |exact Ag
       |(intro j hj
         rw[g5m cm]
         have hm:((L.getD i stR.d).l.getD k 0).toNat<(htP L (nOf p.W p.H) i k).length:=by rw[c5v];omega
         exact d71 hm j)
       |skip)
     ·have cm:k=(L.getD i stR.d).l.length:=Dt
      subst cm
      refine⟨i+1,Ed,E6,?_⟩
      rw[g3t b7]
      refine wlk _ ?_;(repeat' first|constructor|refine Iu fun hu=> ?_|intro h);all_goals refine Lm ?_
      all_goals(first
       |exact Ae
       |exact Ag
       |skip)
   ·have b7:i=L.length:=Dt
    subst b7
    refine⟨(0:Nat),J5 _,?_,?_⟩
    ·rw[j3f]
     refine wlk _ ?_;(repeat' first|constructor|refine Iu fun hu=> ?_|intro h);all_goals refine Lm ?_
     all_goals first|exact Ae|exact Ag|(rw[c66])|skip
    ·intro u hu
     replace hu:u≤nOf p.W p.H:=hu
     refine wlk _ ?_;(repeat' first|constructor|refine Iu fun hu=> ?_|intro h);all_goals refine Lm ?_
     all_goals(try simp only[I8]at*)
     all_goals(first
      |exact An
      |skip)
     ·have di:u<nOf p.W p.H:=Dt
      refine⟨(0:Nat),J5 _,?_,?_⟩
      ·refine wlk _ ?_;(repeat' first|constructor|refine Iu fun hu=> ?_|intro h);all_goals refine Lm ?_
       all_goals first|exact Ae|exact B4|skip
      ·intro e he
       replace he:e≤3:=he
       refine wlk _ ?_;(repeat' first|constructor|refine Iu fun hu=> ?_|intro h);all_goals refine Lm ?_
       all_goals(try simp only[I8]at*)
       all_goals(first
        |exact A4
        |skip)
       ·simp only[b00,RT.lst_row,c6h]
        refine⟨⟨⟨⟨b09 _,bc.1.1⟩,RT.is_row mvR _,RT.is_row clR _,RT.is_row b04 _⟩,Ix,fun _ _=>Ix,fun _=>Ix,fun _ _=>Ix,fun i hi=> ?_⟩,j0g (hS h0) bc Dt di Dt⟩
        rw[c4e];exact b6y _
       ·simp only[b00,RT.lst_row,c6h]
        refine⟨e+1,by show e+1≤3;omega,Gd,?_⟩
        have cc:b2w (b3g p r L) (3*u+(e+1))=b5m (b3g p r L) (u:Int) (e:Int) (b2w (b3g p r L) (3*u+e)):=f4q (b3g p r L) Dt
        revert cc
        generalize b2w (b3g p r L) (3*u+(e+1))=T
        rintro rfl
        refine wlk _ ?_;(repeat' first|constructor|refine Iu fun hu=> ?_|intro h);all_goals refine Lm ?_
        all_goals(first
         |exact Ae
         |exact B4
         |omega
         |skip)
       ·have he3:e=3:=Dt
        subst he3
        refine⟨u+1,by show u+1≤_;omega,by show _-(u+1)<_-u;omega,?_⟩
        refine wlk _ ?_;(repeat' first|constructor|refine Iu fun hu=> ?_|intro h);all_goals refine Lm ?_
        all_goals(first
         |exact Ae
         |exact B4
         |omega
         |skip)
     ·have di:u=nOf p.W p.H:=Dt
      subst di
      rw[f7y]
      have:=(b3w (b3g p r L) (3*nOf p.W p.H)).1
      exact⟨fun _ _=>rfl,Dt,seam_q (hS h0) (J2 _)⟩
     ·have:=(b3w (b3g p r L) (3*u)).1
      refine⟨Dt,Dt,c34 Du Dt Dt,Dt⟩
     ·have di:u=nOf p.W p.H:=Dt
      subst di
      rw[show b2w (b3g p r L) (3*nOf p.W p.H)=b27 p r L from rfl,f7y,←c47,show b2d c3z (List.map d5y (b27 p r L))=b1r p r L from rfl]
      refine⟨(0:Nat),J5 _,?_,?_⟩
      ·refine wln _ ?_;(repeat' first|constructor|refine Iu fun hu=> ?_|intro h);all_goals refine Lm ?_
       all_goals(first
        |exact Ae
        |exact B4
        |exact Ad
        |exact fun _ _=>j46
        |exact c47
        |omega
        |skip)
      ·intro i hi
       replace hi:i≤(b1r p r L).length:=hi
       refine wln _ ?_;(repeat' first|constructor|refine Iu fun hu=> ?_|intro h);all_goals refine Lm ?_
       all_goals(try simp only[I8]at*)
       all_goals(first
        |omega
        |(simp only[inK];have:=@c47 p r L;have:=(b3w (b3g p r L) (3*nOf p.W p.H)).1;have:(b27 p r L).length=(b2w (b3g p r L) (3*nOf p.W p.H)).length:=rfl;omega)
        |(show i<(b1r p r L).length;omega)
        |skip)
       ·have b7:i<(b1r p r L).length:=Dt
        have hk:=c14 b7
        simp only[b00,RT.lst_row,c6h]
        refine⟨⟨⟨⟨b09 _,bc.1.1⟩,RT.is_row mvR _,RT.is_row clR _,RT.is_row b04 _⟩,RT.is_row kyR _,fun _=>Ix,fun _ _=>Ix,fun j hj=> ?_⟩,?_,?_,?_⟩
        ·rw[c4e];exact b6y _
        ·show b5u (c7x (b3g p r L) (b27 p r L) (b1r p r L) i) (qK (b1r p r L) i)=true
         rw[g4d];exact hk
        ·show b5y (c7x (b3g p r L) (b27 p r L) (b1r p r L) i) (qK (b1r p r L) i)<(c7x (b3g p r L) (b27 p r L) (b1r p r L) i).length
         rw[c1c,f18];exact b68 hk
        ·show f2n (b3g p r L) ((c7x (b3g p r L) (b27 p r L) (b1r p r L) i).getD (b5y (c7x (b3g p r L) (b27 p r L) (b1r p r L) i) (qK (b1r p r L) i)) sm0)
         rw[c1c,d0f (fun j hj=>c14 hj) (fun a b h1 h2=>f6c h1 h2) i i (J2 _) b7]
         have hm:=b0c (d:=sm0) (b68 hk)
         have hz:=(b3w (b3g p r L) (3*nOf p.W p.H)).2 _ hm
         refine f7v (hS h0) (c4c (hS h0) _ (J2 _) _ hm) ?_
         unfold d06 at*
         omega
       ·have b7:i<(b1r p r L).length:=Dt
        have hk:=c14 b7
        have hA:(ofS p r L).getD i sm0=b9k (b3g p r L) ((c7x (b3g p r L) (b27 p r L) (b1r p r L) i).getD (b5y (c7x (b3g p r L) (b27 p r L) (b1r p r L) i) (qK (b1r p r L) i)) sm0):=by
         rw[g0m h0 b7,c1c,d0f (fun j hj=>c14 hj) (fun a b h1 h2=>f6c h1 h2) i i (J2 _) b7]
        simp only[b00,RT.lst_row,c6h]
        refine⟨i+1,Ed,E6,?_⟩
        refine wln _ ?_;(repeat' first|constructor|refine Iu fun hu=> ?_|intro h);all_goals refine Lm ?_
        all_goals(first
         |exact Ae
         |exact B4
         |exact Ad
         |exact fun j _=>j2w (A:=fun j=>(ofS p r L).getD j sm0) hA j
         |omega
         |skip)
       ·exact(d6p h0).symm
       ·intro j hj
        left
        have:i=(b1r p r L).length:=Dt
        subst this
        show d2v (upto _ _ _ j)=d2v _
        rw[b9z _ _ hj]
        rfl
def asSm:SV→Option (Prop×Sm)
 |.agg [.int .i64 a,.int .i64 b,.int .u8 c,.int .i64 d,.int .i64 e,.int .u8 f,x,y,z]=>match paR.as x,loR.as y,b04.as z with
  |some u,some v,some w=>some (paR.is u.1 u.2∧loR.is v.1 v.2∧b04.is w.1 w.2,⟨⟨a,b,c⟩,⟨d,e,f⟩,paR.lst u.1 u.2,loR.lst v.1 v.2,b04.lst w.1 w.2⟩)
  |_,_,_=>none
 |_=>none
theorem g1q{x:SV}{q:Prop}{s:Sm}(h:asSm x=some (q,s))(hq:q):x.le2 (.agg (d2v s)):=by
 unfold asSm at h
 split at h
 ·rename_i a b c d e f x y z
  split at h
  ·rename_i u v w h1 h2 h3
   cases h
   obtain⟨q1,q2,q3⟩:=hq
   have e1:=paR.as_le h1 q1
   have e2:=loR.as_le h2 q2
   have e3:=b04.as_le h3 q3
   refine⟨Dz,Dz,Dz,Dz,Dz,Dz,e1,e2,e3,Ix⟩
  ·cases h
 ·cases h
abbrev nSp1:FuncId:=183
def f8a(l:List Int)(g:Bool):List Blk:=[.cells 69 [.sl 1 l.length (b04.row l) none],.cells 4 [.bool g]]
def hSp1:HK:=fun args own=>match args,own with
 | [.int .i64 v,.own 0 0,.own 1 0],[.cells T1 [x],.cells T2 [.bool g]]=>if T1=69∧T2=4 then(b04.as x).map fun q=>⟨b04.isL q.1 q.2∧q.1≤100000,.int .i64 (b4g (b04.lst q.1 q.2) v),f8a (b04.lst q.1 q.2) (g&&decide (0≤b4g (b04.lst q.1 q.2) v)),[]⟩else none
 |_,_=>none
def FSp1:FamH:=⟨(Int×List Int)×Bool,fun((v,_),_)=>[.int .i64 v,.own 0 0,.own 1 0],fun((_,l),g)=>f8a l g,fun((_,l),_)=>l.length≤100000,fun((v,l),_)=>.int .i64 (b4g l v),fun((v,l),g)=>f8a l (g&&decide (0≤b4g l v)),[]⟩
theorem pSp1:HS nSp1 hSp1:=by
 refine c90 {l:=[(d6n,c77)]} ⟨by simpa using f7f,Dv,Dv⟩ FSp1 (fun _ _=>none) hSp1 ?_ ?_ ?_ Go.Proofs.Tryz.func183 Du Du Du ?_
 ·intro args own r h hp
  unfold hSp1 at h
  split at h
  ·rename_i v T1 x T2 g
   split at h
   ·rename_i hT
    obtain⟨rfl,rfl⟩:=hT
    simp only[J1]at h
    obtain⟨⟨n,f⟩,hx,rfl⟩:=h
    have e1:=b04.as_leL hx hp.1
    refine⟨((v,b04.lst n f),g),⟨E3,E3,E3,Ix⟩,rfl,⟨⟨Eg,e1,Ix⟩,⟨Eg,Dz,Ix⟩,Ix⟩,by show (b04.lst n f).length≤100000;rw[RT.lst_length];exact hp.2,rfl,rfl,rfl⟩
   ·cases h
  ·cases h
 ·exact Bw
 ·intro i;show 2≤2;decide
 ·rintro⟨⟨v,l⟩,g⟩ μ hp
  replace hp:l.length≤100000:=hp
  refine wlk _ ?_;(repeat' first|constructor|refine Iu fun hu=> ?_|intro h);all_goals refine Lm ?_
  all_goals(try simp only[RT.lst_row]at*)
  all_goals(first
   |exact⟨RT.isL_row b04 _,hp⟩
   |exact A2
   |skip)
theorem b0u{α:Type}{L:List α}{i:Nat}{d:α}(h:i<L.length):L.take (i+1)=L.take i++[L.getD i d]:=by
 rw[Kn]
 simp[h]
theorem g4t{α:Type}{R:RT α}{L:List α}{i:Nat}{c:List SV}(h:i<L.length)(hc:c=R.sv (L.getD i R.d)):∀j,j<i+1→(if j<i then R.row (L.take i) j else(List.map (fun x:Nat×List SV=>x.snd) [(0,c)].reverse).getD (j-i) [])=R.row (L.take (i+1)) j:=by
 have e:(L.take i).length=i:=H7
 have:=b43 (R:=R) (l:=L.take i) (x:=L.getD i R.d) hc
 rwa[←b0u h,e]at this
def spA(d:Int)(x:Pa):Int:=if d=0 then x.a else x.b
def spP(s:Sm)(d:Int)(l:List Int):List Int:=s.ps.map fun x=>b4g l (spA d x)
def spR(l:List Int)(x:Lo):Pa:=⟨min (b4g l x.a) (b4g l x.b),max (b4g l x.a) (b4g l x.b)⟩
def spF(d:Int)(L:List Lo):List Lo:=L.filter fun x=>decide (x.s=d)
def spL(s:Sm)(d:Int)(l:List Int):List Pa:=(spF d s.ls).map (spR l)
def spG1(d:Int)(l:List Int)(P:List Pa):Bool:=P.all fun x=>decide (0≤b4g l (spA d x))
def spG2(l:List Int)(L:List Lo):Bool:=L.all fun x=>decide (0≤b4g l x.a)&&decide (0≤b4g l x.b)
def spG(s:Sm)(d:Int)(l:List Int):Bool:=spG1 d l s.ps&&spG2 l (spF d s.ls)
theorem f7w{d:Int}{l:List Int}{P:List Pa}{i:Nat}(h:i<P.length):spG1 d l (P.take (i+1))=(spG1 d l (P.take i)&&decide (0≤b4g l (spA d (P.getD i paR.d)))):=by
 rw[b0u (d:=paR.d) h];simp[spG1]
theorem d8u{d:Int}{L:List Lo}{i:Nat}(h:i<L.length)(hd:(L.getD i loR.d).s=d):spF d (L.take (i+1))=spF d (L.take i)++[L.getD i loR.d]:=by
 rw[b0u (d:=loR.d) h];unfold spF;rw[List.filter_append]
 generalize L.getD i loR.d=x at*
 simp[hd]
theorem g4h{d:Int}{L:List Lo}{i:Nat}(h:i<L.length)(hd:(L.getD i loR.d).s≠d):spF d (L.take (i+1))=spF d (L.take i):=by
 rw[b0u (d:=loR.d) h];unfold spF;rw[List.filter_append]
 generalize L.getD i loR.d=x at*
 simp[hd]
theorem g4u{l:List Int}{L:List Lo}{x:Lo}:spG2 l (L++[x])=(spG2 l L&&decide (0≤b4g l x.a)&&decide (0≤b4g l x.b)):=by simp[spG2,Bool.and_assoc]
theorem j2n{s:Sm}{d:Int}{l:List Int}{i:Nat}(h:i<s.ps.length):(spP s d l).getD i b04.d=b4g l (spA d (s.ps.getD i paR.d)):=by
 simp[spP,h]
theorem c0p{s:Sm}{d:Int}{l:List Int}:(spP s d l).length=s.ps.length:=by simp[spP]
theorem spRow{L:List Lo}{d:Int}{l:List Int}{i:Nat}{c:List SV}(h:i<L.length)(hd:(L.getD i loR.d).s=d)(hc:c=paR.sv (spR l (L.getD i loR.d))):∀j,j<(spF d (L.take i)).length+1→(if j<(spF d (L.take i)).length then paR.row ((spF d (L.take i)).map (spR l)) j else(List.map (fun x:Nat×List SV=>x.snd) [(0,c)].reverse).getD (j-(spF d (L.take i)).length) [])=paR.row ((spF d (L.take (i+1))).map (spR l)) j:=by
 have:=b43 (R:=paR) (l:=(spF d (L.take i)).map (spR l)) (x:=spR l (L.getD i loR.d)) hc
 rw[d8u h hd,List.map_append]
 rwa[Js]at this
theorem g92{d:Int}{L:List Lo}{i:Nat}:(spF d (L.take i)).length≤L.length:=by
 unfold spF
 exact Ce
def g8w(s:Sm)(d:Int)(l:List Int):SV:=.tup [.sl 2 (spL s d l).length (paR.row (spL s d l)) none,.sl 1 (spP s d l).length (b04.row (spP s d l)) none,.bool (spG s d l)]
def spIn(s:Sm)(d:Int)(l:List Int):Prop:=(s.ps.length≤100000∧s.ls.length≤100000)∧l.length≤100000∧(d=0∨d=1)
abbrev g7a:FuncId:=111
def f29:Kon
 | [x,.int .u8 d,y]=>match asSm x,b04.as y with
   |some q,some u=>some (q.1∧b04.isL u.1 u.2∧spIn q.2 d (b04.lst u.1 u.2),g8w q.2 d (b04.lst u.1 u.2))
   |_,_=>none
 |_=>none
def FSpans:Fam:=⟨Sm×Int×List Int,fun(s,d,l)=>[.agg (d2v s),.int .u8 d,.sl 1 l.length (b04.row l) none],fun(s,d,l)=>spIn s d l,fun(s,d,l)=>g8w s d l⟩
def spOwn(s:Sm)(l:List Int)(g:Bool)(rest:List Blk):List Blk:=.cells 143 (d2v s)::.cells 69 [.sl 1 l.length (b04.row l) none]::.cells 4 [.bool g]::rest
def ISpans:Sm×Int×List Int→Nat→Option Inv
 |(s,d,l),4=>some {β:=Nat,ok:=fun i=>i≤s.ps.length,st:=fun i=>⟨[⟨20,none,.int .i64 i⟩,⟨19,none,.int .i64 s.ps.length⟩,⟨18,none,.sl 2 s.ps.length (paR.row s.ps) none⟩,⟨9,none,.clo nSp1 [.own 1 0,.own 2 0]⟩,⟨8,none,.own 2 0⟩,⟨7,none,.osl 3⟩,⟨6,none,.con (.slice none 0 0)⟩,⟨3,none,.own 0 0⟩,⟨1,none,.int .u8 d⟩],spOwn s l (spG1 d l (s.ps.take i)) [.row 3 1 i (b04.row ((spP s d l).take i)) none]⟩,μ:=fun i=>s.ps.length-i,nl:=[.slot 7 3 1]}
 |(s,d,l),9=>some {β:=Nat,ok:=fun i=>i≤s.ls.length,st:=fun i=>⟨[⟨40,none,.int .i64 i⟩,⟨39,none,.int .i64 s.ls.length⟩,⟨38,none,.sl 3 s.ls.length (loR.row s.ls) none⟩,⟨9,none,.clo nSp1 [.own 1 0,.own 2 0]⟩,⟨8,none,.own 2 0⟩,⟨7,none,.osl 3⟩,⟨6,none,.osl 4⟩,⟨1,none,.int .u8 d⟩],spOwn s l (spG1 d l s.ps&&spG2 l (spF d (s.ls.take i))) [.row 3 1 (spP s d l).length (b04.row (spP s d l)) none,.row 184 2 (spF d (s.ls.take i)).length (paR.row ((spF d (s.ls.take i)).map (spR l))) none]⟩,μ:=fun i=>s.ls.length-i,nl:=[.slot 6 184 2]}
 |_,_=>none
theorem pSpans:PS g7a f29:=by
 refine f04 {h:=[(nSp1,hSp1)],c2:=true} ⟨Dv,Dv,by simpa using pSp1⟩ FSpans ISpans f29 ?_ ?_ Go.Proofs.Tryz.func111 Du Du Du ?_
 ·intro args pre s h hp
  unfold f29 at h
  split at h
  ·rename_i x d y
   split at h
   ·rename_i q u h1 h2
    cases h
    exact⟨(q.2,d,b04.lst u.1 u.2),⟨g1q h1 hp.1,E3,b2p (b04.as_leL h2 hp.2.1),Ix⟩,hp.2.2,rfl⟩
   ·cases h
  ·cases h
 ·exact Bw
 ·rintro⟨s,d,l⟩ ⟨⟨bc,bm⟩,jb,hd⟩
  rcases hd with rfl|rfl
  all_goals
   all_goals refine wlk _ ?_;(repeat' first|constructor|refine Iu fun hu=> ?_|intro h);all_goals refine Lm ?_
   refine⟨(0:Nat),J5 _,?_,?_⟩
   ·refine wlk _ ?_;(repeat' first|constructor|refine Iu fun hu=> ?_|intro h);all_goals refine Lm ?_
    all_goals first|exact A2|exact Ag|skip
   ·intro i hi
    replace hi:i≤s.ps.length:=hi
    refine wlk _ ?_;(repeat' first|constructor|refine Iu fun hu=> ?_|intro h);all_goals refine Lm ?_
    all_goals(try simp only[I8,RT.lst_row]at*)
    all_goals(try first
     |omega
     |exact⟨RT.isL_row b04 _,jb⟩
     |exact Aa
     |exact A4)
    ·have b7:i<s.ps.length:=Dt
     refine⟨i+1,Dt,Dt,?_⟩
     simp only[f7w b7]
     refine wlk _ ?_;(repeat' first|constructor|refine Iu fun hu=> ?_|intro h);all_goals refine Lm ?_
     all_goals(first
      |exact Aj
      |exact g4t (by rw[c0p];exact b7) (by rw[j2n b7];rfl)
      |skip)
    ·have b7:i=s.ps.length:=Dt
     subst b7
     refine⟨(0:Nat),J5 _,?_,?_⟩
     ·simp only[Kq,List.take_zero]
      refine wlk _ ?_;(repeat' first|constructor|refine Iu fun hu=> ?_|intro h);all_goals refine Lm ?_
      all_goals(first
       |exact A2
       |exact c0p.symm
       |exact Ag
       |(simp[spG2,spF];done)
       |(intro j _;rw[Ki (by rw[c0p];exact J2 _)];done)
       |skip)
     ·intro i hi
      replace hi:i≤s.ls.length:=hi
      refine wlk _ ?_;(repeat' first|constructor|refine Iu fun hu=> ?_|intro h);all_goals refine Lm ?_
      all_goals(try simp only[I8,RT.lst_row]at*)
      all_goals(try first
       |omega
       |exact⟨RT.isL_row b04 _,jb⟩
       |exact Aa
       |(have:=@g92 0 s.ls i;refine⟨Dt,?_⟩;exact b46 Du Dt)
       |(have:=@g92 1 s.ls i;refine⟨Dt,?_⟩;exact b46 Du Dt)
       |exact A4
       |exact B9)
      ·have hd:=h
       have b7:i<s.ls.length:=Dt
       refine⟨i+1,Dt,Dt,?_⟩
       simp only[d8u b7 hd,g4u,Ig,←Bool.and_assoc]
       refine wlk _ ?_;(repeat' first|constructor|refine Iu fun hu=> ?_|intro h);all_goals refine Lm ?_
       all_goals(first
        |exact Aj
        |(rw[←d8u b7 hd];exact spRow b7 hd rfl)
        |skip)
      ·have hd:=h
       have b7:i<s.ls.length:=Dt
       refine⟨i+1,Dt,Dt,?_⟩
       simp only[g4h b7 hd]
       refine wlk _ ?_;(repeat' first|constructor|refine Iu fun hu=> ?_|intro h);all_goals refine Lm ?_
       all_goals(first
        |exact Aj
        |skip)
      all_goals
       have b7:i=s.ls.length:=Dt
       subst b7
       simp only[Kq]
       first
        |exact A2
        |(unfold spL;rw[List.length_map];done)
        |skip
def sdB(s:Int):Bool:=decide (1<s)
abbrev d7y:FuncId:=113
def g3q:Kon
 | [.agg [.int .u8 s,.int .i64 _,.int .i64 _]]=>some (True,.bool (sdB s))
 |_=>none
def FCrs1:Fam:=⟨Int×Int×Int,fun(s,a,b)=>[.agg [.int .u8 s,.int .i64 a,.int .i64 b]],fun _=>True,fun(s,_,_)=>.bool (sdB s)⟩
theorem pCrs1:PS d7y g3q:=by
 refine con [] Dv FCrs1 (fun _ _=>none) g3q ?_ ?_ Go.Proofs.Tryz.func113 Du Du Du ?_
 ·intro args pre s h hp
  unfold g3q at h
  split at h
  ·rename_i s a b
   cases h
   exact⟨(s,a,b),⟨E8,Ix⟩,Ix,rfl⟩
  ·cases h
 ·exact Bu
 ·rintro⟨s,a,b⟩ _
  refine wlk _ ?_;(repeat' first|constructor|refine Iu fun hu=> ?_|intro h);all_goals refine Lm ?_
  all_goals first|rfl|skip
abbrev g95:FuncId:=184
def f0b:Kon
 | [x,.clo g []]=>if g=d7y then(loR.as x).map fun q=>(loR.isL q.1 q.2∧q.1≤100000,.int .i64 (f5b sdB ((loR.lst q.1 q.2).map (·.s))))else none
 |_=>none
def g91:Fam:=⟨List Lo,fun l=>[.sl 3 l.length (loR.row l) none,.clo d7y []],fun l=>l.length≤100000,fun l=>.int .i64 (f5b sdB (l.map (·.s)))⟩
def IIdxFL:List Lo→Nat→Option Inv
 |l,2=>some {β:=Nat,ok:=fun i=>i≤l.length∧∀j,j<i→sdB ((l.map (·.s)).getD j 0)=false,st:=fun i=>⟨[⟨8,none,.int .i64 i⟩,⟨7,none,.int .i64 l.length⟩,⟨1,none,.clo d7y []⟩,⟨0,none,.sl 3 l.length (loR.row l) none⟩],[]⟩,μ:=fun i=>l.length-i}
 |_,_=>none
theorem g39(l:List Lo)(i:Nat):(l.map (·.s)).getD i 0=(l.getD i loR.d).s:=by
 simp only[It,Jv]
 cases l[i]?<;>rfl
theorem pIdxFL:PS g95 f0b:=by
 refine con [(d7y,g3q)] (by simpa using pCrs1) g91 IIdxFL f0b ?_ ?_ Go.Proofs.Tryz.func184 Du Du Du ?_
 ·intro args pre s h hp
  unfold f0b at h
  split at h
  ·split at h
   ·rename_i hg
    subst hg
    simp only[Ia]at h
    obtain⟨⟨n,f⟩,hx,rfl,rfl⟩:=h
    exact⟨loR.lst n f,⟨b2p (loR.as_leL hx hp.1),⟨rfl,rfl⟩,Ix⟩,by simp only[g91,RT.lst_length];exact hp.2,rfl⟩
   ·cases h
  ·cases h
 ·exact Bv
 ·intro(l:List Lo) hp
  replace hp:l.length≤100000:=hp
  refine wlk _ ?_;(repeat' first|constructor|refine Iu fun hu=> ?_|intro h);all_goals refine Lm ?_
  refine⟨(0:Nat),⟨J5 _,fun j hj=>Dt⟩,?_,?_⟩
  ·refine wlk _ ?_;(repeat' first|constructor|refine Iu fun hu=> ?_|intro h);all_goals refine Lm ?_
   all_goals first|exact A5|skip
  ·intro i hi
   obtain⟨cw,be⟩:=hi
   have hm:=g39 l i
   have hml:(l.map (·.s)).length=l.length:=Js ..
   refine wlk _ ?_;(repeat' first|constructor|refine Iu fun hu=> ?_|intro h);all_goals refine Lm ?_
   all_goals(try simp only[I8]at*)
   all_goals(first
    |exact An
    |rfl
    |exact Ix
    |exact(d1m Dt be (by rw[hm];assumption)).symm
    |(refine⟨i+1,⟨Dt,fun j hj=> ?_⟩,E6,?_⟩)
    |exact Bi
    |skip)
   ·by_cases e:j<i
    ·exact be j e
    ·have:j=i:=Dt
     subst this
     rw[hm]
     assumption
   ·refine wlk _ ?_;(repeat' first|constructor|refine Iu fun hu=> ?_|intro h);all_goals refine Lm ?_
    all_goals first|exact Aq|skip
abbrev g9w:FuncId:=112
def f17:Kon
 | [x,.clo g []]=>if g=d7y then(loR.as x).map fun q=>(loR.isL q.1 q.2∧q.1≤100000,.bool (((loR.lst q.1 q.2).map (·.s)).any sdB))else none
 |_=>none
def j03:Fam:=⟨List Lo,fun l=>[.sl 3 l.length (loR.row l) none,.clo d7y []],fun l=>l.length≤100000,fun l=>.bool ((l.map (·.s)).any sdB)⟩
theorem pCntFL:PS g9w f17:=by
 refine con [(g95,f0b)] (by simpa using pIdxFL) j03 (fun _ _=>none) f17 ?_ ?_ Go.Proofs.Tryz.func112 Du Du Du ?_
 ·intro args pre s h hp
  unfold f17 at h
  split at h
  ·split at h
   ·rename_i hg
    subst hg
    simp only[Ia]at h
    obtain⟨⟨n,f⟩,hx,rfl,rfl⟩:=h
    exact⟨loR.lst n f,⟨b2p (loR.as_leL hx hp.1),⟨rfl,rfl⟩,Ix⟩,by simp only[j03,RT.lst_length];exact hp.2,rfl⟩
   ·cases h
  ·cases h
 ·exact Bv
 ·intro(l:List Lo) hp
  replace hp:l.length≤100000:=hp
  refine wlk _ ?_;(repeat' first|constructor|refine Iu fun hu=> ?_|intro h);all_goals refine Lm ?_
  all_goals(try simp only[RT.lst_row]at*)
  all_goals(first
   |exact⟨loR.isL_row l,hp⟩
   |exact d24 _ _
   |skip)
end Go.Proofs.YtdblhepcmjecgaaGreatDoor.V
