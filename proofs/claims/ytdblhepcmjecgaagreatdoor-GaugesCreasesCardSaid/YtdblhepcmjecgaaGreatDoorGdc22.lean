/-
  Parts of the proof: N6 F6 L17. Conditions: none.
-/
import Derived.Test.YtdblhepcmjecgaaGreatDoorGdc24
import Derived.Test.YtdblhepcmjecgaaGreatDoorGdc5
import Derived.Test.YtdblhepcmjecgaaGreatDoorGdc8
import Derived.Test.YtdblhepcmjecgaaGreatDoorGdc19
set_option maxRecDepth 100000
set_option maxHeartbeats 40000000
namespace Go.Proofs.YtdblhepcmjecgaaGreatDoor.V
open Go
theorem j01{L:List Stk}(hp:b67 L)(h1:∀s∈L,s.l.length≤1):∀i,i≤L.length→∀o∈oF L i,(o.2=true→o.1.l.length≤1)∧o.1.l.length≤2
 |0,_=>by simp[oF]
 |i+1,h=>by
  have ih:=j01 hp h1 i Dt
  have hx:(L.getD i stR.d).l.length≤1:=h1 _ (b0c Dt)
  rw[c0h Dt]
  intro o ho
  cases hf:fnd (oF L i) (clQ (L.getD i stR.d).c)with
  |some k=>
   rw[b8k hf]at ho
   have hk:=hp.2.2.2 i k Dt hf
   rcases Lb ho with ho|rfl
   ·exact ih o ho
   ·have a:=(ih _ (b0c (d:=dO) (b7e hf).1)).1 hk.1
    refine⟨fun q=>(by cases q),?_⟩
    simp only[Jj]
    omega
  |none=>
   rw[b61 hf]at ho
   rcases Jf.1 ho with ho|ho
   ·exact ih o ho
   ·simp only[Jk]at ho
    subst ho
    exact⟨fun _=>hx,by show (L.getD i stR.d).l.length≤2;omega⟩
theorem g9r{L:List Stk}(hp:b67 L)(h1:∀s∈L,s.l.length≤1):∀s∈ovS L,s.l.length≤2:=by
 intro s hs
 have k:(ovS L).Perm ((oF L L.length).map (·.1)):=b30 _ _
 obtain⟨o,ho,rfl⟩:=Ja.1 (k.mem_iff.1 hs)
 exact(j01 hp h1 _ (J2 _) o ho).2
theorem j3x:(((List.range 4).all fun a=>(List.range 4).all fun b=>(flL (a+1) (b+1)).all fun s=>decide (s.l.length≤1)):Bool)=true:=Du
theorem fl_one(w v:Int):∀s∈(f61 w v).2.2,s.l.length≤1:=by
 have hw:∃a:Nat,a<4∧shW w=(a:Int)+1:=⟨(w%4).toNat,Dt,Gm⟩
 have hv:∃a:Nat,a<4∧shW v=(a:Int)+1:=⟨(v%4).toNat,Dt,Gm⟩
 obtain⟨a,ha,ea⟩:=hw
 obtain⟨b,hb,eb⟩:=hv
 show∀s∈flL (shW w) (shW v),s.l.length≤1
 rw[ea,eb]
 intro s hs
 have:=J4.1 (J4.1 (J4.1 j3x a (K1.2 ha)) b (K1.2 hb)) s hs
 simpa using this
theorem mv_one{r:Mv}{L:List Stk}(h:∀s∈L,s.l.length≤1):∀s∈c89 r (L.map b5j),s.l.length≤1:=by
 intro s hs
 unfold c89 at hs
 split at hs
 ·have h2:=(c60 (d:=stR.d) (lt:=b1s) ((L.map b5j).map (mvS r))).2 s hs
  obtain⟨t,ht,rfl⟩:=Ja.1 h2
  obtain⟨u,hu,rfl⟩:=Ja.1 ht
  have:=h u hu
  show (u.l.reverse).length≤1
  rw[List.length_reverse]
  exact this
 ·cases hs
theorem do_two{x:Sta}{f:Fd}(b6:c17 x)(h0:0≤f.2.2.1)(he:f8s x f=0)(h1:∀s∈x.2.2,s.l.length≤1):∀s∈(c5h x f).2.2,s.l.length≤2:=by
 obtain⟨p,r,L⟩:=x
 obtain⟨k,C,d,o⟩:=f
 have hc:b1j p r L=0∧b6x k C d=0∧doX k C d L=0:=by
  simp only[f8s]at he
  unfold doE at he
  repeat'(split at he)
  all_goals first|exact B6|omega
 have I:=j0v b6.1 b6.2 hc.1 hc.2.1 h0
 have hv:=I.D.ov hc.2.2
 have hz:(c5h (p,r,L) (k,C,d,o)).2.2=doL k C d o L:=by
  show zL (f8s (p,r,L) (k,C,d,o)) (doL k C d o L)=_
  rw[he]
  rfl
 rw[hz]
 have hA:∀t∈b1q k C (1-d) L,t.l.length≤1:=fun t ht=>h1 t (Kg.1 ht).1
 have hB:∀t∈doV k C d L,t.l.length≤1:=mv_one fun t ht=>h1 t (Kg.1 ht).1
 unfold doL
 split
 ·exact g9r hv.2.1 fun t ht=>(Jf.1 ht).elim (hA t) (hB t)
 ·exact g9r hv.2.2.1 fun t ht=>(Jf.1 ht).elim (hB t) (hA t)
theorem once{w v:Int}{l:List Int}(h:(b2a w v l).length=1):∀s∈(fOf w v l).2.2,s.l.length≤2:=by
 unfold fOf
 unfold b2a at h⊢
 generalize l.take 6=bs at h⊢
 cases bs with
 |nil=>simp[b9i]at h
 |cons b bs=>
  have hv:=c5a w v
  have h1:=fl_one w v
  unfold b9i at h⊢
  split at h
  ·simp at h
  ·rename_i c1
   split at h
   ·simp at h
   ·rename_i c2
    rw[Iy c1,Iy c2]
    have hn:b9i bs (c5h (f61 w v) (c1e (d5p (f61 w v)) b))=[]:=Kd E1
    rw[hn]
    exact do_two hv (d2i (d82 _) b) (Classical.not_not.1 c2) h1
theorem j3z{p:Pt}{r:Mv}{L:List Stk}(S:SkOK p r L)(ja:b0m p=0)(he:∀c∈p.l,inK .u8 c.e)(h2:∀s∈L,s.l.length≤2){c:Cr}(hc:c∈p.l):gcB p L c=0:=by
 obtain⟨s,hs,f1,f2,g1,g2,bb⟩:=f5q S ja he hc
 have b1:=c5i s.l c.c
 have b2:=c5i s.l (b03 p.W p.H c.c c.e)
 have b3:=h2 s hs
 unfold gcB d61
 rw[f1,f2]
 simp only[Ik]
 omega
def hgt(L:List Stk)(v:Int):Cl×Int:=(f42 L v).getD (⟨0,0,0⟩,-1)
def rHgt(L:List Stk)(v:Int):SV:=.tup [.agg [.int .i64 (hgt L v).1.x,.int .i64 (hgt L v).1.y,.int .u8 (hgt L v).1.q],.int .i64 (hgt L v).2]
abbrev nHgt:FuncId:=16
def kHgt:Kon
 | [x,.int .i64 v]=>(b3z x).map fun q=>(q.1,rHgt q.2.2.2 v)
 |_=>none
def FHgt:Fam:=⟨(Pt×Mv×List Stk)×Int,fun((p,r,L),v)=>[.agg (stC p r L),.int .i64 v],fun((p,r,L),_)=>b5n p r∧b2b L,fun((_,_,L),v)=>rHgt L v⟩
def hgOwn(p:Pt)(r:Mv)(L:List Stk):List Blk:=[.cells 31 (stC p r L),.cells 54 [.int .i64 0,.int .i64 0,.int .u8 0]]
def IHgt:(Pt×Mv×List Stk)×Int→Nat→Option Inv
 |((p,r,L),v),2=>some {β:=Nat,ok:=fun i=>i≤L.length∧∀j,j<i→b4g (L.getD j stR.d).l v<0,st:=fun i=>⟨[⟨6,none,.int .i64 i⟩,⟨5,none,.int .i64 0⟩,⟨4,none,.own 1 0⟩,⟨2,none,.own 0 0⟩,⟨1,none,.int .i64 v⟩],hgOwn p r L⟩,μ:=fun i=>L.length-i,sub:=fun i=>some fun|5=>some {β:=Nat,ok:=fun k=>k≤(L.getD i stR.d).l.length∧∀j,j<k→(L.getD i stR.d).l.getD j 0≠v,st:=fun k=>⟨[⟨7,none,.int .i64 k⟩,⟨6,none,.int .i64 i⟩,⟨5,none,.int .i64 0⟩,⟨4,none,.own 1 0⟩,⟨2,none,.own 0 0⟩,⟨1,none,.int .i64 v⟩],hgOwn p r L⟩,μ:=fun k=>(L.getD i stR.d).l.length-k}|_=>none}
 |_,_=>none
theorem pHgt:PS nHgt kHgt:=by
 refine con [] Dv FHgt IHgt kHgt ?_ ?_ Go.Proofs.Tryz.func16 Du Du Du ?_
 ·intro args pre s h hp
  unfold kHgt at h
  split at h
  ·rename_i x v
   simp only[Ia]at h
   obtain⟨⟨q,p,r,L⟩,hx,rfl,rfl⟩:=h
   obtain⟨h1,h2,h3⟩:=b1n hx hp
   exact⟨((p,r,L),v),⟨h1,E3,Ix⟩,⟨h2,h3⟩,rfl⟩
  ·cases h
 ·exact Bv
 ·rintro⟨⟨p,r,L⟩,v⟩ ⟨bc,bm⟩
  try dsimp only at bc bm
  refine wlk _ ?_;(repeat' first|constructor|refine Iu fun hu=> ?_|intro h);all_goals refine Lm ?_
  refine⟨(0:Nat),⟨J5 _,fun j hj=>Dt⟩,?_,?_⟩
  ·refine wlk _ ?_;(repeat' first|constructor|refine Iu fun hu=> ?_|intro h);all_goals refine Lm ?_
   all_goals first|exact Aj|skip
  ·intro i hi
   obtain⟨cw,be⟩:=hi
   have hL:=bm.1.1
   have hg:=b45 bm.1 i
   have hN:¬(i:Int)<L.length→hgt L v=(⟨0,0,0⟩,-1):=fun h=>by
    unfold hgt
    rw[d3x (fun j hj=>be j Dt)]
    rfl
   refine wlk _ ?_;(repeat' first|constructor|refine Iu fun hu=> ?_|intro h);all_goals refine Lm ?_
   all_goals(try simp only[I8]at*)
   all_goals(try first
    |(rw[hN Dx];done)
    |omega)
   have qv:i<L.length:=Dt
   refine⟨(0:Nat),⟨J5 _,fun j hj=>Dt⟩,?_,?_⟩
   ·refine wlk _ ?_;(repeat' first|constructor|refine Iu fun hu=> ?_|intro h);all_goals refine Lm ?_
    all_goals first|exact Aj|skip
   ·intro k hk
    obtain⟨m7,df⟩:=hk
    have e0:∀j,(L.getD i stR.d).l.getD j b04.d=(L.getD i stR.d).l.getD j 0:=fun _=>rfl
    have hY:k<(L.getD i stR.d).l.length→(L.getD i stR.d).l.getD k 0=v→hgt L v=((L.getD i stR.d).c,(k:Int)):=fun h1 h2=>by
     have q:=f02 h1 df h2
     unfold hgt
     rw[f1p qv be Dt,q]
     rfl
    have hZ:¬k<(L.getD i stR.d).l.length→∀j,j<i+1→b4g (L.getD j stR.d).l v<0:=fun h1 j hj=>by
     by_cases e:j=i
     ·rw[e,d57 (fun j hj=>df j Dt)]
      omega
     ·exact be j Dt
    refine wlk _ ?_;(repeat' first|constructor|refine Iu fun hu=> ?_|intro h);all_goals refine Lm ?_
    all_goals(try simp only[I8,e0]at*)
    all_goals(try first
     |omega
     |exact A9
     |(rw[hY Dt Dx];done))
    ·have hu:∀j,j<k+1→(L.getD i stR.d).l.getD j 0≠v:=fun j hj=>by
      by_cases e:j=k
      ·rw[e];assumption
      ·exact df j Dt
     refine⟨k+1,⟨Dt,hu⟩,Dt,?_⟩
     refine wlk _ ?_;(repeat' first|constructor|refine Iu fun hu=> ?_|intro h);all_goals refine Lm ?_
     all_goals first|exact Aj|skip
    ·refine⟨i+1,⟨Dt,hZ Dt⟩,Dt,?_⟩
     refine wlk _ ?_;(repeat' first|constructor|refine Iu fun hu=> ?_|intro h);all_goals refine Lm ?_
     all_goals first|exact Aj|skip
theorem cr_hgt{p:Pt}{r:Mv}{L:List Stk}(S:SkOK p r L)(ja:b0m p=0)(he:∀c∈p.l,inK .u8 c.e){c:Cr}(hc:c∈p.l):∃(q:Cl) (a b:Int),hgt L c.c=(q,a)∧hgt L (b03 p.W p.H c.c c.e)=(q,b)∧(0≤a∧a<1024)∧(0≤b∧b<1024)∧gcB p L c=max (a-b) (b-a)-1∧b0g p.W p.H c.c c.e=0:=by
 obtain⟨s,hs,f1,f2,g1,g2,bb⟩:=f5q S ja he hc
 have b1:=g58 S hs c.c
 have b2:=g58 S hs (b03 p.W p.H c.c c.e)
 refine⟨s.c,b4g s.l c.c,b4g s.l (b03 p.W p.H c.c c.e),by unfold hgt;rw[f1];rfl,by unfold hgt;rw[f2];rfl,⟨g1,b1⟩,⟨g2,b2⟩,?_,(j4i ja he c hc).2.2⟩
 unfold gcB d61
 rw[f1,f2]
 rfl
abbrev GCi:=Int×Int×List Int
def FGC:Fam:=⟨GCi,fun(w,v,l)=>[.agg (fSV w v l)],fun(w,v,l)=>fOK w v l,fun _=>.bool true⟩
def gcOwn(w v:Int)(l:List Int)(S:Sta):List Blk:=[.cells 43 (fSV w v l),.cells 31 (stC S.1 S.2.1 S.2.2)]
def IGC:GCi→Nat→Option Inv
 |(w,v,l),6=>some {β:=Nat×Sta,ok:=fun(i,S)=>i≤S.1.l.length∧S=fOf w v l,st:=fun(i,S)=>⟨[⟨6,none,.int .i64 i⟩,⟨4,none,.sl 2 S.1.l.length (gcR.row (gcL S.1 S.2.2)) none⟩,⟨3,none,.own 1 0⟩,⟨1,none,.own 0 0⟩],gcOwn w v l S⟩,μ:=fun(i,S)=>S.1.l.length-i}
 |(w,v,l),22=>some {β:=Nat×Sta,ok:=fun(i,S)=>i≤S.1.l.length∧S=fOf w v l,st:=fun(i,S)=>⟨[⟨16,none,.int .i64 i⟩,⟨4,none,.sl 2 S.1.l.length (gcR.row (gcL S.1 S.2.2)) none⟩,⟨3,none,.own 1 0⟩,⟨1,none,.own 0 0⟩],gcOwn w v l S⟩,μ:=fun(i,S)=>S.1.l.length-i}
 |_,_=>none
abbrev nGC:FuncId:=4
theorem pGC_of(zq:PS b5w b48):PS nGC (f5c FGC):=by
 refine con [(b5w,b48),(nFOf,kFOf),(g0e,d4u),(nGCr,g7n),(b31,b1i),(nHgt,kHgt)] (by simpa using⟨zq,pFOf,g87,pGCr,b2f,pHgt⟩) FGC IGC (f5c FGC) ?_ ?_ Go.Proofs.Tryz.func4 Du Du Du ?_
 ·exact d7x FGC (fun _=>rfl) (fun i=>by simp[FGC,fSV,b2h,SV.le2,SV.le1,b24,SV.le0,b3q,d0g])
 ·exact Bu
 ·rintro⟨w,v,l⟩ ⟨i1,i2,i3⟩
  try dsimp only at i1 i2 i3
  have b6:=g0j w v l
  have cd:u8R.isL l.length (u8R.row l)∧(0≤w∧w≤255)∧(0≤v∧v≤255)∧∀b∈l,0≤b∧b≤255:=⟨u8R.isL_row l,i1,i2,i3⟩
  have bw:=b2r b6.1 b6.2
  have hv:=f8u w v l
  have h1:=@once w v l
  generalize hS:fOf w v l=S at bw hv b6 h1
  obtain⟨p,r,L⟩:=S
  dsimp only at bw h1
  replace hv:b1j p r L=0:=hv
  have hZ:zL (b1j p r L) (gcL p L)=gcL p L:=Iw hv
  have fb:=b70 p L
  have hpn:p.l.length≤100000:=b6.1.1.1
  have dz:=f3x (c2g hv) b6.1.2.1 b6.2.2.1
  have ja:b0m p=0:=(b54 (c0s (c2g hv)).1).1
  have gu:=fun(i:Nat) (h:i<p.l.length)=>cr_hgt dz ja b6.1.1.2 (b0c (d:=d0) h)
  refine wlk _ ?_;(repeat' first|constructor|refine Iu fun hu=> ?_|intro h);all_goals refine Lm ?_
  all_goals(try simp only[hS,b00,RT.lst_row,b0f,b0s]at h)
  all_goals(try simp only[hS,b00,RT.lst_row,b0f,b0s])
  all_goals(try first
   |exact cd
   |exact bw
   |(simp only[hZ,fb]at h;simp[hv]at h;done))
  refine⟨((0:Nat),(p,r,L)),⟨J5 _,by first|exact Bp⟩,?_,?_⟩
  ·refine wlk _ ?_;(repeat' first|constructor|refine Iu fun hu=> ?_|intro h);all_goals refine Lm ?_
   all_goals(try simp only[hZ,fb])
   all_goals first|exact A2|skip
  ·rintro⟨i,S⟩ ⟨hi,jx⟩
   try dsimp only at hi jx
   replace jx:S=(p,r,L):=by first|exact Bt
   subst jx
   replace hi:i≤p.l.length:=hi
   by_cases b7:i<p.l.length
   ·obtain⟨q,A,B,e1,e2,a1,b1,e3,e4⟩:=gu i b7
    have hg:=c2v (L:=L) b7
    have hu:0≤(p.l.getD i d0).e:=by
     have:=b6.1.1.2 _ (b0c (d:=d0) b7)
     simp only[inK]at this
     omega
    refine wlk _ ?_;(repeat' first|constructor|refine Iu fun hu=> ?_|intro h);all_goals refine Lm ?_
    all_goals(try simp only[hS,J7,b00,RT.lst_row,e1,e2,hg])
    all_goals(try first
     |exact bw
     |exact hu
     |exact A9)
    all_goals(try simp only[I8,I9,Mn,Bool.not_true,Bool.and_true,Bool.true_and,RT.lst_row,hg,e1,e2,e4]at*)
    all_goals(try first
     |omega
     |(exfalso;simp at h;omega))
    all_goals(try
     refine⟨(i+1,(p,r,L)),⟨Hh,by first|exact Bp⟩,Hi,?_⟩
     all_goals refine wlk _ ?_;(repeat' first|constructor|refine Iu fun hu=> ?_|intro h);all_goals refine Lm ?_
     all_goals first|exact A2|skip)
   ·have ei:i=p.l.length:=Dt
    subst ei
    refine wlk _ ?_;(repeat' first|constructor|refine Iu fun hu=> ?_|intro h);all_goals refine Lm ?_
    all_goals(try simp only[Ie,RT.lst_row]at*)
    all_goals(try(exfalso;omega))
    all_goals(try simp only[hS])
    all_goals(try first
     |exact cd
     |exact bw)
    ·have hL2:=h1 Dt
     have h0:=fun(i:Nat) (h:i<p.l.length)=>j3z dz ja b6.1.1.2 hL2 (b0c (d:=d0) h)
     refine⟨((0:Nat),(p,r,L)),⟨J5 _,by first|exact Bp⟩,?_,?_⟩
     ·refine wlk _ ?_;(repeat' first|constructor|refine Iu fun hu=> ?_|intro h);all_goals refine Lm ?_
      all_goals first|exact A2|skip
     ·rintro⟨i,S⟩ ⟨hi,jx⟩
      try dsimp only at hi jx
      replace jx:S=(p,r,L):=by first|exact Bt
      subst jx
      replace hi:i≤p.l.length:=hi
      have hg:i<p.l.length→((gcL p L).getD i gcR.d).2=0:=fun h=>by rw[c2v h];exact h0 i h
      refine wlk _ ?_;(repeat' first|constructor|refine Iu fun hu=> ?_|intro h);all_goals refine Lm ?_
      all_goals(try simp only[Ie,I9]at*)
      all_goals(try first
       |exact A9
       |exact absurd (hg Dt) Dx)
      all_goals(try
       refine⟨(i+1,(p,r,L)),⟨Hh,by first|exact Bp⟩,Hi,?_⟩
       all_goals refine wlk _ ?_;(repeat' first|constructor|refine Iu fun hu=> ?_|intro h);all_goals refine Lm ?_
       all_goals first|exact A2|skip)
theorem j4y{q:Int×Int×List Int}(h:fOK q.1 q.2.1 q.2.2):FGC.pre q:=h
end Go.Proofs.YtdblhepcmjecgaaGreatDoor.V
