/-
  Parts of the proof: C12 C13 C14 C15 U0 U1 U2 U3 U4 U6 C16 C18 C19 C20 C21 Q5 A23 Q6 A24 A25 A26 A28 A27 A29 Q7 C23 C24 A41 A30 A31. Conditions: none.
-/
import Derived.Test.YtdblhepcmjecgaaGreatDoorGdc1
import Derived.Test.YtdblhepcmjecgaaGreatDoorGdc5
import Derived.Test.YtdblhepcmjecgaaGreatDoorGdc7
import Derived.RangeFuncWrites
import Derived.RangeFuncBox
import Derived.RangeFuncLeaves
import Derived.RangeFuncCalls
import Derived.RangeFuncBound
import Derived.Shelf.Abstract
import Derived.Shelf.RegionOpen
import Derived.WalkKit
import Derived.OwnWalkIn
import Derived.TacticsInMore
import Derived.LoopNIn
import Derived.LoopIn
import Derived.Maps.AppendAt
import Derived.Shelf.SlicesE.Compact
import Derived.Shelf.SlicesQ.Reverse
import Derived.Ground.SlgnProg
set_option maxRecDepth 100000
set_option maxHeartbeats 40000000
namespace Go.Proofs.YtdblhepcmjecgaaGreatDoor.V
open Go
def stC(p:Pt)(r:Mv)(L:List Stk):List SV:=[.int .i64 p.W,.int .i64 p.H,.sl 3 p.l.length (b20 p.l) none,.int .u8 r.t,.int .i64 r.x,.int .i64 r.y,b7u L]
def b3z:SV→Option (Prop×Pt×Mv×List Stk)
 |.agg [.int .i64 W,.int .i64 H,c,.int .u8 t,.int .i64 a,.int .i64 b,z]=>match f5z c,d2w z with
  |some q,some s=>some (((d4p q.1 q.2∧q.1≤100000)∧(∀x∈crL q.1 q.2,inK .u8 x.e)∧0≤t∧t≤255)∧s.1∧(∀x∈s.2,inK .u8 x.c.q)∧(b0j s.2).length≤100000,⟨W,H,crL q.1 q.2⟩,⟨t,a,b⟩,s.2)
  |_,_=>none
 |_=>none
theorem f2d{x:SV}{q:Prop}{L:List Stk}(h:d2w x=some (q,L))(hq:q):x.le0 (b7u L)∧b2y L:=by
 unfold d2w at h
 simp only[Ia]at h
 obtain⟨⟨n,f⟩,hx,rfl,rfl⟩:=h
 exact⟨stR.as_leL hx hq.1,Gz,hq.2.2⟩
theorem b1n{x:SV}{q:Prop}{p:Pt}{r:Mv}{L:List Stk}(h:b3z x=some (q,p,r,L))(hq:q):x.le2 (.agg (stC p r L))∧b5n p r∧b2b L:=by
 unfold b3z at h
 split at h
 ·rename_i W H c t a b z
  split at h
  ·rename_i u v h1 h2
   cases h
   obtain⟨⟨⟨q1,q2⟩,q3,q4,q5⟩,q6,q7,q8⟩:=hq
   obtain⟨b1,b2⟩:=f2d h2 q6
   refine⟨?_,⟨⟨by simp only[b32];exact q2,q3⟩,q4,q5⟩,b2,q7,q8⟩
   refine⟨Dz,Dz,b8i h1 q1,Dz,Dz,Dz,b1,Ix⟩
  ·cases h
 ·cases h
def lkC(p:Pt)(r:Mv)(L:List Stk)(u:List Bool)(S:List Sm):List SV:=stC p r L++[.sl 1 u.length (b1x.row u) none,.sl 9 S.length (smR.row S) none]
def zP(e:Int)(p:Pt):Pt:=if e=0 then p else⟨0,0,[]⟩
def zR(e:Int)(r:Mv):Mv:=if e=0 then r else⟨0,0,0⟩
def zL{α:Type}(e:Int)(L:List α):List α:=if e=0 then L else []
def rLook(p:Pt)(r:Mv)(L:List Stk):SV:=.tup [.agg (lkC (zP (b2j p r L) p) (zR (b2j p r L) r) (zL (b2j p r L) L) (zL (b2j p r L) (upL p r)) (zL (b2j p r L) (ofS p r L))),.int .i64 (b2j p r L)]
abbrev nLook:FuncId:=32
def g41:Kon
 | [x]=>(b3z x).map fun q=>(q.1,rLook q.2.1 q.2.2.1 q.2.2.2)
 |_=>none
def FLook:Fam:=⟨Pt×Mv×List Stk,fun(p,r,L)=>[.agg (stC p r L)],fun(p,r,L)=>b5n p r∧b2b L,fun(p,r,L)=>rLook p r L⟩
theorem pLook:PS nLook g41:=by
 refine con [(nSeOf,g3i),(nUp,kUp)] (by simpa using⟨pSeOf,pUp⟩) FLook (fun _ _=>none) g41 ?_ ?_ Go.Proofs.Tryz.func32 Du Du Du ?_
 ·intro args pre s h hp
  unfold g41 at h
  split at h
  ·simp only[Ia]at h
   obtain⟨⟨q,p,r,L⟩,hx,rfl,rfl⟩:=h
   obtain⟨h1,h2,h3⟩:=b1n hx hp
   exact Ca
  ·cases h
 ·exact Bu
 ·rintro⟨p,r,L⟩ ⟨bc,bm⟩
  refine wlk _ ?_;(repeat' first|constructor|refine Iu fun hu=> ?_|intro h);all_goals refine Lm ?_
  all_goals(try simp only[b00,RT.lst_row]at*)
  all_goals(first
   |exact Bf
   |(have e:b2j p r L=0:=by simpa using h
     first
      |(simp[zP,zR,zL,e];done)
      |(show b0w p r=_;rw[(c0s e).1,e];done))
   |(have e:¬b2j p r L=0:=by simpa using h
     simp[zP,zR,zL,e];done)
   |skip)
def asLk:SV→Option (Prop×Pt×Mv×List Stk×List Bool×List Sm)
 |.agg [.int .i64 W,.int .i64 H,c,.int .u8 t,.int .i64 a,.int .i64 b,z,u,s]=>match f5z c,d2w z,b1x.as u,smR.as s with
  |some q,some v,some x,some y=>some ((d4p q.1 q.2∧q.1≤100000)∧v.1∧(b1x.isL x.1 x.2∧x.1≤100000)∧(smR.isL y.1 y.2∧y.1≤100000),⟨W,H,crL q.1 q.2⟩,⟨t,a,b⟩,v.2,b1x.lst x.1 x.2,smR.lst y.1 y.2)
  |_,_,_,_=>none
 |_=>none
def lkOK(p:Pt)(L:List Stk)(u:List Bool)(S:List Sm):Prop:=p.l.length≤100000∧b2y L∧u.length≤100000∧S.length≤100000
theorem d8j{x:SV}{q:Prop}{p:Pt}{r:Mv}{L:List Stk}{u:List Bool}{S:List Sm}(h:asLk x=some (q,p,r,L,u,S))(hq:q):x.le2 (.agg (lkC p r L u S))∧lkOK p L u S:=by
 unfold asLk at h
 split at h
 ·rename_i W H c t a b z u' s'
  split at h
  ·rename_i h1 h2 h3 h4
   cases h
   obtain⟨q1,q2,q3,q4⟩:=hq
   obtain⟨b1,b2⟩:=f2d h2 q2
   exact⟨⟨Dz,Dz,b8i h1 q1.1,Dz,Dz,Dz,b1,b1x.as_leL h3 q3.1,smR.as_leL h4 q4.1,Ix⟩,H1,b2,by rw[RT.lst_length];exact q3.2,by rw[RT.lst_length];exact q4.2⟩
  ·cases h
 ·cases h
def g2p(L:List Stk)(S:List Sm):Int:=if(S.any fun s=> !decide (crE s L=0))=true then 12 else 0
def j09(S:List Sm):Prop:=∀s∈S,s.ps.length≤100000∧s.ls.length≤100000
theorem j48{L:List Stk}(h:b2y L)(c:Cl):(f0z L c).length≤100000:=by
 unfold f0z
 split
 ·rename_i s hs
  exact h.2 s (List.mem_of_find?_eq_some hs)
 ·exact J5 _
abbrev c98:FuncId:=33
def b93:Kon
 | [x]=>(asLk x).map fun q=>(q.1∧j09 q.2.2.2.2.2,.int .i64 (g2p q.2.2.2.1 q.2.2.2.2.2))
 |_=>none
def f34:Fam:=⟨Pt×Mv×List Stk×List Bool×List Sm,fun(p,r,L,u,S)=>[.agg (lkC p r L u S)],fun(p,_,L,u,S)=>lkOK p L u S∧j09 S,fun(_,_,L,_,S)=>.int .i64 (g2p L S)⟩
def f57:Pt×Mv×List Stk×List Bool×List Sm→Nat→Option Inv
 |(p,r,L,u,S),2=>some {β:=Nat,ok:=fun i=>i≤S.length∧∀j,j<i→crE (S.getD j sm0) L=0,st:=fun i=>⟨[⟨8,none,.int .i64 i⟩,⟨7,none,.int .i64 S.length⟩,⟨6,none,.sl 9 S.length (smR.row S) none⟩,⟨1,none,.own 0 0⟩],[.cells 94 (lkC p r L u S)]⟩,μ:=fun i=>S.length-i}
 |_,_=>none
theorem j0x{L:List Stk}{S:List Sm}{i:Nat}(hi:i<S.length)(h:¬crE (S.getD i sm0) L=0):g2p L S=12:=by
 unfold g2p
 rw[Iw]
 exact Jc.2 ⟨S.getD i sm0,b0c hi,E1⟩
theorem g33{L:List Stk}{S:List Sm}(h:∀j,j<S.length→crE (S.getD j sm0) L=0):g2p L S=0:=by
 unfold g2p
 rw[Iy]
 intro hh
 obtain⟨s,hs,hb⟩:=Jc.1 hh
 obtain⟨i,hi,rfl⟩:=b2v (d:=sm0) hs
 rw[h i hi]at hb
 exact absurd hb Dy
theorem f4i:PS c98 b93:=by
 refine con [(f1g,c4m)] (by simpa using g4w) f34 f57 b93 ?_ ?_ Go.Proofs.Tryz.func33 Du Du Du ?_
 ·intro args pre s h hp
  unfold b93 at h
  split at h
  ·simp only[Ia]at h
   obtain⟨⟨q,p,r,L,u,S⟩,hx,rfl,rfl⟩:=h
   obtain⟨h1,h2⟩:=d8j hx hp.1
   exact⟨(p,r,L,u,S),⟨h1,Ix⟩,⟨h2,hp.2⟩,rfl⟩
  ·cases h
 ·exact Bu
 ·rintro⟨p,r,L,u,S⟩ ⟨⟨bc,bm,jb,qx⟩,Pd⟩
  refine wlk _ ?_;(repeat' first|constructor|refine Iu fun hu=> ?_|intro h);all_goals refine Lm ?_
  refine⟨(0:Nat),⟨J5 _,fun j hj=>absurd hj (Je _)⟩,?_,?_⟩
  ·refine wlk _ ?_;(repeat' first|constructor|refine Iu fun hu=> ?_|intro h);all_goals refine Lm ?_
   all_goals first|exact A2|skip
  ·intro i hi
   obtain⟨cw,be⟩:=hi
   replace cw:i≤S.length:=cw
   have hs:i<S.length→(S.getD i sm0).ps.length≤100000∧(S.getD i sm0).ls.length≤100000:=fun h=>Pd _ (b0c h)
   refine wlk _ ?_;(repeat' first|constructor|refine Iu fun hu=> ?_|intro h);all_goals refine Lm ?_
   all_goals(try simp only[I8,RT.lst_row]at*)
   all_goals(try first
    |omega
    |exact⟨⟨paR.is_row _,loR.is_row _,b04.is_row _⟩,b2i L bm,hs Dt,bm,j48 bm⟩
    |exact A4
    |exact(g33 fun j hj=>be j Dt).symm)
   ·have hb:(!decide (crE (S.getD i sm0) L=0))=true:=h
    exact(j0x (i:=i) Dt G3).symm
   ·refine⟨i+1,⟨Dt,fun j hj=> ?_⟩,E6,?_⟩
    ·by_cases e:j<i
     ·exact be j e
     ·have:j=i:=Dt
      subst this
      have hb:(!decide (crE (S.getD j sm0) L=0))=false:=h
      simpa using hb
    ·refine wlk _ ?_;(repeat' first|constructor|refine Iu fun hu=> ?_|intro h);all_goals refine Lm ?_
     all_goals first|exact Aj|skip
def d2z(W H a b e:Int):Bool:=decide (b0g W H a e=0)&&decide (b03 W H a e=b)
def j3b(W H a b:Int):Option Int:=if d2z W H a b 0=true then some 0 else if d2z W H a b 1=true then some 1 else if d2z W H a b 2=true then some 2 else none
def creC(W H a b:Int):Int:=if(j3b W H a b).isSome=true then a else 0
def creG(W H a b:Int):Int:=(j3b W H a b).getD 0
abbrev g25:FuncId:=64
def f82(W H a b:Int):SV:=.agg [.int .i64 (creC W H (min a b) (max a b)),.int .u8 (creG W H (min a b) (max a b))]
def d00:Kon
 | [.agg [.int .i64 W,.int .i64 H],.agg [.int .u8 _,.int .i64 a,.int .i64 b]]=>some (True,f82 W H a b)
 |_=>none
def j5c:Fam:=⟨(Int×Int)×Int×Int×Int,fun((W,H),s,a,b)=>[.agg [.int .i64 W,.int .i64 H],.agg [.int .u8 s,.int .i64 a,.int .i64 b]],fun _=>True,fun((W,H),_,a,b)=>f82 W H a b⟩
def j2r:(Int×Int)×Int×Int×Int→Nat→Option Inv
 |((W,H),s,a,b),3=>some {β:=Nat,ok:=fun i=>i≤3∧∀j:Nat,j<i→d2z W H (min a b) (max a b) j=false,st:=fun i=>⟨[⟨20,none,.int .u8 i⟩,⟨6,none,.int .i64 (max a b)⟩,⟨5,none,.int .i64 (min a b)⟩,⟨4,none,.own 2 0⟩,⟨2,none,.own 0 0⟩],[.cells 23 [.int .i64 W,.int .i64 H],.cells 146 [.int .u8 s,.int .i64 a,.int .i64 b],.cells 100 [.int .i64 0,.int .u8 0]]⟩,μ:=fun i=>3-i}
 |_,_=>none
theorem j3s{W H a b:Int}{i:Nat}(hi:i<3)(h:∀j:Nat,j<i→d2z W H a b j=false)(hc:d2z W H a b i=true):j3b W H a b=some (i:Int):=by
 rcases(show i=0∨i=1∨i=2 from Dt)with rfl|rfl|rfl
 ·exact Iw hc
 ·have h0:¬d2z W H a b 0=true:=I5
  unfold j3b;rw[if_neg h0];exact if_pos hc
 ·have h0:¬d2z W H a b 0=true:=I5
  have h1:¬d2z W H a b 1=true:=I7
  unfold j3b;rw[if_neg h0,if_neg h1];exact if_pos hc
theorem g44{W H a b:Int}(h:∀j:Nat,j<3→d2z W H a b j=false):j3b W H a b=none:=by
 have h0:¬d2z W H a b 0=true:=I5
 have h1:¬d2z W H a b 1=true:=I7
 have h2:¬d2z W H a b 2=true:=by rw[show d2z W H a b 2=false from h 2 Dy];decide
 unfold j3b;rw[if_neg h0,if_neg h1,if_neg h2]
theorem j2t:PS g25 d00:=by
 refine con [(b31,b1i)] (by simpa using b2f) j5c j2r d00 ?_ ?_ Go.Proofs.Tryz.func64 Du Du Du ?_
 ·intro args pre s h hp
  unfold d00 at h
  split at h
  ·rename_i W H s a b
   cases h
   exact⟨((W,H),s,a,b),⟨E8,E8,Ix⟩,Ix,rfl⟩
  ·cases h
 ·exact Bv
 ·rintro⟨⟨W,H⟩,s,a,b⟩ _
  refine wlk _ ?_;(repeat' first|constructor|refine Iu fun hu=> ?_|intro h);all_goals refine Lm ?_
  refine⟨(0:Nat),⟨J5 _,fun j hj=>absurd hj (Je _)⟩,?_,?_⟩
  ·refine wlk _ ?_;(repeat' first|constructor|refine Iu fun hu=> ?_|intro h);all_goals refine Lm ?_
   all_goals first|exact A2|skip
  ·intro i hi
   obtain⟨cw,be⟩:=hi
   replace cw:i≤3:=cw
   refine wlk _ ?_;(repeat' first|constructor|refine Iu fun hu=> ?_|intro h);all_goals refine Lm ?_
   all_goals(try simp only[I8]at*)
   all_goals(try first
    |exact An
    |(have e:=j3s (i:=i) Dt be (by unfold d2z;assumption);simp[creC,creG,e];done)
    |(have e:=g44 fun j hj=>be j Dt;simp[creC,creG,e];done))
   ·refine⟨i+1,⟨Dt,fun j hj=> ?_⟩,E6,?_⟩
    ·by_cases e:j<i
     ·exact be j e
     ·have:j=i:=Dt
      subst this
      unfold d2z
      assumption
    ·refine wlk _ ?_;(repeat' first|constructor|refine Iu fun hu=> ?_|intro h);all_goals refine Lm ?_
     all_goals first|exact Aj|skip
def knd(u:List Bool)(b:Int):Int:=if u.getD b.toNat b1x.d=true then 1 else 2
abbrev f8j:FuncId:=65
def d1c:Kon
 | [x,.agg [.int .u8 _,.int .i64 _,.int .i64 b]]=>(asLk x).map fun q=>(q.1∧0≤b∧b<q.2.2.2.2.1.length,.int .u8 (knd q.2.2.2.2.1 b))
 |_=>none
def j2h:Fam:=⟨(Pt×Mv×List Stk×List Bool×List Sm)×Int×Int×Int,fun((p,r,L,u,S),s,a,b)=>[.agg (lkC p r L u S),.agg [.int .u8 s,.int .i64 a,.int .i64 b]],fun((p,_,L,u,S),_,_,b)=>lkOK p L u S∧0≤b∧b<u.length,fun((_,_,_,u,_),_,_,b)=>.int .u8 (knd u b)⟩
theorem j2i:PS f8j d1c:=by
 refine con [] Dv j2h (fun _ _=>none) d1c ?_ ?_ Go.Proofs.Tryz.func65 Du Du Du ?_
 ·intro args pre s h hp
  unfold d1c at h
  split at h
  ·rename_i x s' a b
   simp only[Ia]at h
   obtain⟨⟨q,p,r,L,u,S⟩,hx,rfl,rfl⟩:=h
   obtain⟨h1,h2⟩:=d8j hx hp.1
   exact⟨((p,r,L,u,S),s',a,b),⟨h1,E8,Ix⟩,⟨h2,hp.2⟩,rfl⟩
  ·cases h
 ·exact Bv
 ·rintro⟨⟨p,r,L,u,S⟩,s,a,b⟩ hp
  replace hp:lkOK p L u S∧0≤b∧b<u.length:=hp
  refine wlk _ ?_;(repeat' first|constructor|refine Iu fun hu=> ?_|intro h);all_goals refine Lm ?_
  all_goals(first
   |omega
   |exact(Iw h).symm
   |exact(Iy (by rw[h];decide)).symm
   |skip)
def g8m(v:List Int→List SV)(q:List Int):Int:=match v q with
 | [.int _ m]=>m
 |_=>0
def d3y(h:List Int→Bool)(g:List Int→Int)(w:Bool):List Blk:=[.cells 4 [.bool w],.cells 98 [.omp 2],.map (.ints [.i64,.u8]) false h (fun q=>[.int .u8 (g q)])]
def g5k(g:List Int→Int)(q:List Int)(k:Int):Bool:= !decide (g q=3)&& !decide (g q=k)
def chFit(h:List Int→Bool)(v:List Int→List SV):Prop:=(∀q,v q=[.int .u8 (g8m v q)])∧∀q,h q=false→g8m v q=0
abbrev f52:FuncId:=35
def g6z:HK:=fun args own=>match args,own with
 | [.agg [.int .i64 c,.int .u8 e],.int .u8 k,.own 0 0,.own 1 0],[.cells T1 [.bool w],.cells T2 [.omp 2],.map K ag h v]=>if T1=4∧T2=98∧K=.ints [.i64,.u8]∧ag=false then some ⟨chFit h v,.tup [],d3y h (g8m v) (w||g5k (g8m v) [c,e] k),[]⟩else none
 |_,_=>none
def FChk1:FamH:=⟨(Int×Int×Int)×(List Int→Bool)×(List Int→Int)×Bool,fun((c,e,k),_)=>[.agg [.int .i64 c,.int .u8 e],.int .u8 k,.own 0 0,.own 1 0],fun(_,h,g,w)=>d3y h g w,fun(_,h,g,_)=>∀q,h q=false→g q=0,fun _=>.tup [],fun((c,e,k),h,g,w)=>d3y h g (w||g5k g [c,e] k),[]⟩
theorem pChk1:HS f52 g6z:=by
 refine c90 {} ⟨Dv,Dv,Dv⟩ FChk1 (fun _ _=>none) g6z ?_ ?_ ?_ Go.Proofs.Tryz.func35 Du Du Du ?_
 ·intro args own r h hp
  unfold g6z at h
  split at h
  ·rename_i c e k T1 w T2 K ag hs v
   split at h
   ·rename_i hT
    obtain⟨rfl,rfl,rfl,rfl⟩:=hT
    cases h
    obtain⟨bc,bm⟩:=hp
    refine⟨((c,e,k),hs,g8m v,w),⟨E8,E3,E3,E3,Ix⟩,rfl,⟨⟨Eg,Dz,Ix⟩,⟨Eg,Dz,Ix⟩,⟨⟨rfl,rfl⟩,fun _=>rfl,fun q _=>bc q⟩,Ix⟩,bm,rfl,rfl,rfl⟩
   ·cases h
  ·cases h
 ·intro i;show 4≤_;decide
 ·intro i;show 3≤3;decide
 ·rintro⟨⟨c,e,k⟩,hs,g,w⟩ μ hp
  replace hp:∀q,hs q=false→g q=0:=hp
  refine wlk _ ?_;(repeat' first|constructor|refine Iu fun hu=> ?_|intro h);all_goals refine Lm ?_
  all_goals(first
   |exact fun _ hq=>by rw[hp _ hq];kernel_rfl
   |exact B2
   |exact Bn
   |rfl
   |skip)
def loP(p:Pt)(u:List Bool)(x:Lo):List Int×Int:=([creC p.W p.H (min x.a x.b) (max x.a x.b),creG p.W p.H (min x.a x.b) (max x.a x.b)],knd u x.b)
def loW(p:Pt)(u:List Bool)(g:List Int→Int)(l:List Lo):Bool:=l.any fun x=>g5k g (loP p u x).1 (loP p u x).2
def seW(p:Pt)(u:List Bool)(g:List Int→Int)(S:List Sm):Bool:=S.any fun s=>loW p u g s.ls
def loIn(u:List Bool)(S:List Sm):Prop:=∀s∈S,s.ls.length≤100000∧∀x∈s.ls,0≤x.b∧x.b<u.length
abbrev g85:FuncId:=34
def d8y:HK:=fun args own=>match args,own with
 | [x,.clo f [.own 0 0,.own 1 0]],[.cells T1 [.bool w],.cells T2 [.omp 2],.map K ag h v]=>if f=f52∧T1=4∧T2=98∧K=.ints [.i64,.u8]∧ag=false then
     (asLk x).map fun q=>⟨chFit h v∧q.1∧loIn q.2.2.2.2.1 q.2.2.2.2.2,.tup [],d3y h (g8m v) (w||seW q.2.1 q.2.2.2.2.1 (g8m v) q.2.2.2.2.2),[]⟩else none
 |_,_=>none
def FLoops:FamH:=⟨(Pt×Mv×List Stk×List Bool×List Sm)×(List Int→Bool)×(List Int→Int)×Bool,fun((p,r,L,u,S),_)=>[.agg (lkC p r L u S),.clo f52 [.own 0 0,.own 1 0]],fun(_,h,g,w)=>d3y h g w,fun((p,_,L,u,S),h,g,_)=>lkOK p L u S∧loIn u S∧∀q,h q=false→g q=0,fun _=>.tup [],fun((p,_,_,u,S),h,g,w)=>d3y h g (w||seW p u g S),[]⟩
def ILoops:(Pt×Mv×List Stk×List Bool×List Sm)×(List Int→Bool)×(List Int→Int)×Bool→Nat→Option Inv
 |((p,r,L,u,S),h,g,w),2=>some {β:=Nat,ok:=fun i=>i≤S.length,st:=fun i=>⟨[⟨11,none,.int .i64 i⟩,⟨10,none,.int .i64 S.length⟩,⟨9,none,.sl 9 S.length (smR.row S) none⟩,⟨2,none,.own 3 0⟩,⟨1,none,.clo f52 [.own 0 0,.own 1 0]⟩],d3y h g (w||seW p u g (S.take i))++[.cells 94 (lkC p r L u S)]⟩,μ:=fun i=>S.length-i,sub:=fun i=>some fun
  |5=>some {β:=Nat,ok:=fun k=>k≤(S.getD i smR.d).ls.length,st:=fun k=>⟨[⟨18,none,.int .i64 k⟩,⟨17,none,.int .i64 (S.getD i smR.d).ls.length⟩,⟨16,none,.sl 3 (S.getD i smR.d).ls.length (loR.row (S.getD i smR.d).ls) none⟩,⟨11,none,.int .i64 i⟩,⟨10,none,.int .i64 S.length⟩,⟨9,none,.sl 9 S.length (smR.row S) none⟩,⟨2,none,.own 3 0⟩,⟨1,none,.clo f52 [.own 0 0,.own 1 0]⟩],d3y h g (w||seW p u g (S.take i)||loW p u g ((S.getD i smR.d).ls.take k))++[.cells 94 (lkC p r L u S)]⟩,μ:=fun k=>(S.getD i smR.d).ls.length-k}
  |_=>none}
 |_,_=>none
theorem g42{p:Pt}{u:List Bool}{g:List Int→Int}{S:List Sm}{i:Nat}(hi:i<S.length):seW p u g (S.take (i+1))=(seW p u g (S.take i)||loW p u g (S.getD i smR.d).ls):=by
 rw[b0u (d:=smR.d) hi];simp[seW]
theorem g5r{p:Pt}{u:List Bool}{g:List Int→Int}{l:List Lo}{i:Nat}(hi:i<l.length):loW p u g (l.take (i+1))=(loW p u g (l.take i)||g5k g (loP p u (l.getD i loR.d)).1 (loP p u (l.getD i loR.d)).2):=by
 rw[b0u (d:=loR.d) hi];simp[loW]
theorem pLoops:HS g85 d8y:=by
 refine c90 {l:=[(g25,d00),(f8j,d1c)],h:=[(f52,g6z)],c2:=true} ⟨by simpa using⟨j2t,j2i⟩,Dv,by simpa using pChk1⟩ FLoops ILoops d8y ?_ ?_ ?_ Go.Proofs.Tryz.func34 Du Du Du ?_
 ·intro args own r h hp
  unfold d8y at h
  split at h
  ·rename_i x f T1 w T2 K ag hs v
   split at h
   ·rename_i hT
    obtain⟨rfl,rfl,rfl,rfl,rfl⟩:=hT
    simp only[J1]at h
    obtain⟨⟨q,p,r',L,u,S⟩,hx,rfl⟩:=h
    obtain⟨⟨bc,bm⟩,jb,qx⟩:=hp
    obtain⟨h1,h2⟩:=d8j hx jb
    refine⟨((p,r',L,u,S),hs,g8m v,w),⟨h1,⟨rfl,rfl⟩,Ix⟩,rfl,⟨⟨Eg,Dz,Ix⟩,⟨Eg,Dz,Ix⟩,⟨⟨rfl,rfl⟩,fun _=>rfl,fun q _=>bc q⟩,Ix⟩,⟨h2,qx,bm⟩,rfl,rfl,rfl⟩
   ·cases h
  ·cases h
 ·exact Bv
 ·intro i;show 3≤3;decide
 ·rintro⟨⟨p,r,L,u,S⟩,hs,g,w⟩ μ ⟨⟨bc,bm,jb,qx⟩,Pd,hp6⟩
  refine wlk _ ?_;(repeat' first|constructor|refine Iu fun hu=> ?_|intro h);all_goals refine Lm ?_
  refine⟨(0:Nat),J5 _,?_,?_⟩
  ·refine wlk _ ?_;(repeat' first|constructor|refine Iu fun hu=> ?_|intro h);all_goals refine Lm ?_
   all_goals first|exact Ae|exact(Mh _).symm|skip
  ·intro i hi
   replace hi:i≤S.length:=hi
   have bv:i<S.length→(S.getD i smR.d).ls.length≤100000∧∀x∈(S.getD i smR.d).ls,0≤x.b∧x.b<u.length:=fun h=>Pd _ (b0c h)
   refine wlk _ ?_;(repeat' first|constructor|refine Iu fun hu=> ?_|intro h);all_goals refine Lm ?_
   all_goals(try simp only[I8]at*)
   all_goals(try first
    |exact An
    |exact fun _=>Ix
    |exact B9
    |(rw[Ki Dt];done))
   ·have b7:i<S.length:=Dt
    obtain⟨hl1,zf⟩:=bv b7
    refine⟨(0:Nat),J5 _,?_,?_⟩
    ·refine wlk _ ?_;(repeat' first|constructor|refine Iu fun hu=> ?_|intro h);all_goals refine Lm ?_
     all_goals first|exact Ae|exact(Mh _).symm|skip
    ·intro k hk
     replace hk:k≤(S.getD i smR.d).ls.length:=hk
     have hx:k<(S.getD i smR.d).ls.length→0≤((S.getD i smR.d).ls.getD k loR.d).b∧((S.getD i smR.d).ls.getD k loR.d).b<u.length:=fun h=>zf _ (b0c h)
     refine wlk _ ?_;(repeat' first|constructor|refine Iu fun hu=> ?_|intro h);all_goals refine Lm ?_
     all_goals(try simp only[I8,RT.lst_row]at*)
     all_goals(try first
      |exact An
      |exact⟨⟨⟨b09 _,bc⟩,b2i L bm,⟨b1x.isL_row _,jb⟩,smR.isL_row _,qx⟩,hx Dt⟩
      |exact⟨fun _=>rfl,hp6⟩)
     ·have cm:k<(S.getD i smR.d).ls.length:=Dt
      refine⟨k+1,by show k+1≤_;omega,Gg,?_⟩
      refine wlk _ ?_;(repeat' first|constructor|refine Iu fun hu=> ?_|intro h);all_goals refine Lm ?_
      all_goals first|exact Ae|(rw[g5r cm,←Bool.or_assoc];rfl)|skip
     ·have cm:k=(S.getD i smR.d).ls.length:=Dt
      subst cm
      refine⟨i+1,Ed,E6,?_⟩
      refine wlk _ ?_;(repeat' first|constructor|refine Iu fun hu=> ?_|intro h);all_goals refine Lm ?_
      all_goals first|exact Ae|(rw[g42 b7,Kq,Bool.or_assoc];done)|skip
section
variable {p : Pt} {r : Mv} {L : List Stk}
theorem g29(S:SkOK p r L):(upL p r).length=nOf p.W p.H:=by unfold upL;rw[List.length_map];exact S.P.pl
theorem ofS_ok(bc:b5n p r)(bm:b2b L)(h:b2j p r L=0):lkOK p L (upL p r) (ofS p r L)∧j09 (ofS p r L)∧loIn (upL p r) (ofS p r L):=by
 have S:=f3x h bc.2.1 bm.2.1
 have hN:=b1b S.hs
 have hz:=b3w (b3g p r L) (3*nOf p.W p.H)
 have hu:=g29 S
 have hk:(b1r p r L).length=(b2w (b3g p r L) (3*nOf p.W p.H)).length:=c47
 have one:∀s∈ofS p r L,∃t,t∈b2w (b3g p r L) (3*nOf p.W p.H)∧s=b9k (b3g p r L) t:=by
  intro s hs
  obtain⟨i,hi,rfl⟩:=b2v (d:=sm0) hs
  have b7:i<(b1r p r L).length:=by rw[←d6p h];exact hi
  exact⟨_,b0c (d:=sm0) (b68 (c14 b7)),g0m h b7⟩
 refine⟨⟨bc.1.1,bm.1,Dt,by rw[d6p h];omega⟩,fun s hs=> ?_,fun s hs=> ?_⟩
 ·obtain⟨t,ht,rfl⟩:=one s hs
  obtain⟨z1,z2,_⟩:=hz.2 t ht
  exact⟨H9,H9⟩
 ·obtain⟨t,ht,rfl⟩:=one s hs
  obtain⟨z1,z2,_⟩:=hz.2 t ht
  refine⟨H9,fun x hx=> ?_⟩
  have:=((c4c S _ (J2 _) t ht).ls x ((b83 _ _ _).1 hx)).2.1.2
  unfold inN at this
  omega
end
theorem b0f(p:Pt):(⟨p.W,p.H,p.l⟩:Pt)=p:=rfl
theorem b0s(r:Mv):(⟨r.t,r.x,r.y⟩:Mv)=r:=rfl
def kmV(l:List Cr)(q:List Int):Int:=l.foldl (fun a c=>if f7m q c=true then c.k else a) 0
theorem g3e{l:List Cr}{i:Nat}(hi:i<l.length)(q:List Int):kmV (l.take (i+1)) q=if f7m q (l.getD i d0)=true then(l.getD i d0).k else kmV (l.take i) q:=by
 have:l.take (i+1)=l.take i++[l.getD i d0]:=by
  rw[Kn]
  congr 1
  simp[hi]
 unfold kmV
 rw[this,List.foldl_append]
 rfl
theorem j2y{l:List Cr}{i:Nat}(hi:i<l.length)(q:List Int):b9m (decide (q=[(l.getD i d0).c,(l.getD i d0).e])) [SV.int .u8 (l.getD i d0).k] [SV.int .u8 (kmV (l.take i) q)]=[SV.int .u8 (kmV (l.take (i+1)) q)]:=by
 rw[g3e hi]
 unfold f7m
 by_cases e:q=[(l.getD i d0).c,(l.getD i d0).e]
 ·rw[Jw e,Iw rfl];rfl
 ·rw[Jq e,Iy M7];rfl
theorem kmV_no{l:List Cr}{q:List Int}(h:b2m l q=false):kmV l q=0:=by
 have:∀(l:List Cr) (a:Int),l.any (f7m q)=false→l.foldl (fun a c=>if f7m q c=true then c.k else a) a=a:=by
  intro l
  induction l with
  |nil=>intro a _;rfl
  |cons c l ih=>
   intro a h
   simp only[List.any_cons,Ka]at h
   simp only[Mi,h.1,Ij]
   exact ih a h.2
 exact this l 0 h
def b1j(p:Pt)(r:Mv)(L:List Stk):Int:=
 if¬b2j p r L=0 then b2j p r L else if¬g2p L (ofS p r L)=0 then g2p L (ofS p r L)else if seW p (upL p r) (kmV p.l) (ofS p r L)=true then 13 else 0
abbrev c1f:FuncId:=12
def b8d:Kon
 | [x]=>(b3z x).map fun q=>(q.1,.int .i64 (b1j q.2.1 q.2.2.1 q.2.2.2))
 |_=>none
def FCheck:Fam:=⟨Pt×Mv×List Stk,fun(p,r,L)=>[.agg (stC p r L)],fun(p,r,L)=>b5n p r∧b2b L,fun(p,r,L)=>.int .i64 (b1j p r L)⟩
def ICheck:Pt×Mv×List Stk→Nat→Option Inv
 |(p,r,L),9=>some {β:=Nat,ok:=fun i=>i≤p.l.length,st:=fun i=>⟨[⟨28,none,.int .i64 i⟩,⟨27,none,.int .i64 p.l.length⟩,⟨26,none,.sl 3 p.l.length (b20 p.l) none⟩,⟨6,none,.own 3 0⟩,⟨3,none,.own 1 0⟩],[.cells 31 (stC p r L),.cells 94 (lkC p r L (upL p r) (ofS p r L)),.map (.ints [.i64,.u8]) false (b2m (p.l.take i)) (fun q=>[.int .u8 (kmV (p.l.take i) q)]),.cells 98 [.omp 2]]⟩,μ:=fun i=>p.l.length-i}
 |_,_=>none
theorem d5j:PS c1f b8d:=by
 refine f04 {l:=[(nLook,g41),(c98,b93)],h:=[(g85,d8y)],c2:=true} ⟨by simpa using⟨pLook,f4i⟩,Dv,by simpa using pLoops⟩ FCheck ICheck b8d ?_ ?_ Go.Proofs.Tryz.func12 Du Du Du ?_
 ·intro args pre s h hp
  unfold b8d at h
  split at h
  ·simp only[Ia]at h
   obtain⟨⟨q,p,r,L⟩,hx,rfl,rfl⟩:=h
   obtain⟨h1,h2,h3⟩:=b1n hx hp
   exact Ca
  ·cases h
 ·exact Bu
 ·rintro⟨p,r,L⟩ ⟨bc,bm⟩
  refine wlk _ ?_;(repeat' first|constructor|refine Iu fun hu=> ?_|intro h);all_goals refine Lm ?_
  all_goals(try simp only[b00,RT.lst_row,b0f,b0s]at*)
  ·exact⟨⟨⟨b09 _,bc.1.1⟩,bc.1.2,bc.2⟩,b2i L bm.1,bm.2⟩
  ·exact(Iw E1).symm
  all_goals
   have e:b2j p r L=0:=by first|(simpa using h;done)|(rename_i h1;simpa using h1;done)
   have c0:¬¬b2j p r L=0:=fun hh=>hh e
   obtain⟨⟨k1,k2,k3,k4⟩,k5,k6⟩:=ofS_ok bc bm e
   simp only[zP,zR,zL,Iw e]at*
  ·exact⟨⟨⟨b09 _,k1⟩,b2i L k2,⟨b1x.isL_row _,k3⟩,smR.isL_row _,k4⟩,k5⟩
  ·have h':¬g2p L (ofS p r L)=0:=E1
   unfold b1j
   rw[Iy c0,Iw h']
  ·have h':¬¬g2p L (ofS p r L)=0:=E1
   refine⟨(0:Nat),J5 _,?_,?_⟩
   ·refine wlk _ ?_;(repeat' first|constructor|refine Iu fun hu=> ?_|intro h);all_goals refine Lm ?_
    all_goals first|exact Ae|(intro q;first|rfl|(intro hq;exact absurd hq (by simp[b2m])))|skip
   ·intro i hi
    replace hi:i≤p.l.length:=hi
    refine wlk _ ?_;(repeat' first|constructor|refine Iu fun hu=> ?_|intro h);all_goals refine Lm ?_
    all_goals(try simp only[I8,b00,RT.lst_row,b0f]at*)
    all_goals(try first
     |omega
     |(simp only[inK];have:=bc.1.1;omega)
     |exact⟨⟨fun _=>rfl,fun _ hq=>kmV_no hq⟩,⟨⟨b09 _,k1⟩,b2i L k2,⟨b1x.isL_row _,k3⟩,smR.isL_row _,k4⟩,k6⟩)
    ·have b7:i<p.l.length:=Dt
     refine⟨i+1,Ed,E6,?_⟩
     refine wlk _ ?_;(repeat' first|constructor|refine Iu fun hu=> ?_|intro h);all_goals refine Lm ?_
     all_goals first|exact Ae|exact fun q=>c9t b7 q|exact fun q _=>j2y b7 q|skip
    ·have ei:i=p.l.length:=Dt
     subst ei
     have hw:(false||seW p (upL p r) (kmV (List.take p.l.length p.l)) (ofS p r L))=true:=h
     rw[Kq,Mb]at hw
     unfold b1j
     rw[Iy c0,Iy h',Iw hw]
    ·have ei:i=p.l.length:=Dt
     subst ei
     have hw:(false||seW p (upL p r) (kmV (List.take p.l.length p.l)) (ofS p r L))=false:=h
     rw[Kq,Mb]at hw
     unfold b1j
     rw[Iy c0,Iy h',Iy (by rw[hw];decide)]
def csV(k C:Int)(s:Stk):Int:=d5k k C s.c.x s.c.y s.c.q
def csR(k C:Int)(s:Stk):Int:=c42 k C s.c.x s.c.y s.c.q
theorem g9h(k C:Int)(s:Stk):csV k C s=0∨csV k C s=1:=by
 unfold csV d5k
 split
 ·cases sd3 k C s.c.x s.c.y s.c.q
  ·exact .inl rfl
  ·exact .inr rfl
 ·exact .inl rfl
def b1q(k C d:Int)(L:List Stk):List Stk:=L.filter fun s=>decide (csV k C s=d)
def splBad(k C:Int)(L:List Stk):Bool:=L.any fun s=> !decide (csR k C s=0)
def f8i(k C:Int)(L:List Stk):Int:=if b08 k C=0∧splBad k C L=false then 0 else 1
theorem f0y{k C d:Int}{L:List Stk}{i:Nat}(h:i<L.length)(hd:csV k C (L.getD i stR.d)=d):b1q k C d (L.take (i+1))=b1q k C d (L.take i)++[L.getD i stR.d]:=by
 rw[b0u (d:=stR.d) h];unfold b1q;rw[List.filter_append]
 generalize L.getD i stR.d=x at*
 simp[hd]
theorem d41{k C d:Int}{L:List Stk}{i:Nat}(h:i<L.length)(hd:csV k C (L.getD i stR.d)≠d):b1q k C d (L.take (i+1))=b1q k C d (L.take i):=by
 rw[b0u (d:=stR.d) h];unfold b1q;rw[List.filter_append]
 generalize L.getD i stR.d=x at*
 simp[hd]
theorem f7z{k C d:Int}{L:List Stk}{i:Nat}:(b1q k C d (L.take i)).length≤L.length:=by
 unfold b1q
 exact Ce
theorem j3m{k C:Int}{L:List Stk}{i:Nat}(h:i<L.length)(hd:¬csR k C (L.getD i stR.d)=0):f8i k C L=1:=by
 unfold f8i
 rw[Iy]
 rintro⟨_,hb⟩
 exact Ji.1 hb _ (b0c (d:=stR.d) h) (by rw[Jq hd];rfl)
theorem f0c{k C:Int}{L:List Stk}(h0:b08 k C=0)(h:∀j,j<L.length→csR k C (L.getD j stR.d)=0):f8i k C L=0:=by
 unfold f8i
 rw[Iw]
 refine⟨h0,Ji.2 fun s hs=> ?_⟩
 obtain⟨i,hi,rfl⟩:=b2v (d:=stR.d) hs
 rw[h i hi]
 decide
theorem g9j{A:List Stk}{x:Stk}{c:List SV}(hc:lfL c (stR.sv x)):∀j,j<A.length+1→d0g (if j<A.length then stR.row A j else(List.map (fun x:Nat×List SV=>x.snd) [(0,c)].reverse).getD (j-A.length) []) (stR.row (A++[x]) j):=by
 intro j hj
 by_cases e:j<A.length
 ·rw[Iw e]
  left
  simp[RT.row,J6 e]
 ·have:j=A.length:=Dt
  subst this
  rw[Iy e]
  right
  have h2:stR.row (A++[x]) A.length=stR.sv x:=by simp[RT.row]
  rw[h2,Lv]
  exact hc
def stZ(e:Int)(A:List Stk):List Stk:=if e=0 then A else []
def g7k(k C:Int)(L:List Stk):SV:=.tup [b7u (stZ (f8i k C L) (b1q k C 0 L)),b7u (stZ (f8i k C L) (b1q k C 1 L)),.int .i64 (f8i k C L)]
abbrev d4k:FuncId:=68
def c64:Kon
 | [x,.agg [.int .u8 k,.int .i64 C]]=>(d2w x).map fun q=>(q.1∧∀s∈q.2,0≤s.c.q,g7k k C q.2)
 |_=>none
def FSplit:Fam:=⟨List Stk×Int×Int,fun(L,k,C)=>[b7u L,.agg [.int .u8 k,.int .i64 C]],fun(L,_,_)=>b2y L∧∀s∈L,0≤s.c.q,fun(L,k,C)=>g7k k C L⟩
def ISplit:List Stk×Int×Int→Nat→Option Inv
 |(L,k,C),6=>some {β:=Nat,ok:=fun i=>i≤L.length∧b08 k C=0∧∀j,j<i→csR k C (L.getD j stR.d)=0,st:=fun i=>⟨[⟨23,none,.int .i64 i⟩,⟨22,none,.int .i64 L.length⟩,⟨21,none,b7u L⟩,⟨7,none,.own 1 0⟩,⟨3,none,.own 0 0⟩],[.cells 89 [.int .u8 k,.int .i64 C],.cells 229 [.osl 3,.osl 4],.dead,.row 71 4 (b1q k C 0 (L.take i)).length (stR.row (b1q k C 0 (L.take i))) none,.row 71 4 (b1q k C 1 (L.take i)).length (stR.row (b1q k C 1 (L.take i))) none]⟩,μ:=fun i=>L.length-i,nl:=[.cell 1 0 71 4,.cell 1 1 71 4]}
 |_,_=>none
theorem pSplit:PS d4k c64:=by
 refine f04 {l:=[(d62,d0j),(c65,b86),(c32,c7s),(c2r,b6t)],c2:=true,gr:=fun id=>bif Nat.beq id 8 then [.two 12]else bif Nat.beq id 1000 then [.fz 3,.fz 4]else []} ⟨by simpa using⟨j12,d4c,f77,c9a⟩,Dv,Dv⟩ FSplit ISplit c64 ?_ ?_ Go.Proofs.Tryz.func68 Du Du Du ?_
 ·intro args pre s h hp
  unfold c64 at h
  split at h
  ·rename_i x k C
   simp only[Ia]at h
   obtain⟨⟨q,L⟩,hx,rfl,rfl⟩:=h
   obtain⟨h1,h2⟩:=b4j hx hp.1
   exact⟨(L,k,C),⟨h1,E8,Ix⟩,⟨h2,hp.2⟩,rfl⟩
  ·cases h
 ·exact Bv
 ·rintro⟨L,k,C⟩ ⟨bc,bm⟩
  refine wlk _ ?_;(repeat' first|constructor|refine Iu fun hu=> ?_|intro h);all_goals refine Lm ?_
  all_goals(try(have e:f8i k C L=1:=(Iy (fun hh=>by have h0:=hh.1;rw[Jw h0]at h;cases h));first|(simp[stZ,e];done)|exact e.symm))
  have h0:b08 k C=0:=E1
  refine⟨(0:Nat),⟨J5 _,h0,fun j hj=>absurd hj (Je _)⟩,?_,?_⟩
  ·refine wln _ ?_;(repeat' first|constructor|refine Iu fun hu=> ?_|intro h);all_goals refine Lm ?_
   all_goals first|exact A2|exact Ad|exact Ag|skip
  ·intro i hi
   obtain⟨cw,_,be⟩:=hi
   replace cw:i≤L.length:=cw
   have hl:=bc.1
   have hx:i<L.length→0≤(L.getD i stR.d).c.q∧(L.getD i stR.d).l.length≤100000:=fun h=>⟨bm _ (b0c h),bc.2 _ (b0c h)⟩
   have hA:=@f7z k C 0 L i
   have hB:=@f7z k C 1 L i
   refine wln _ ?_;(repeat' first|constructor|refine Iu fun hu=> ?_|intro h);all_goals refine Lm ?_
   all_goals(try simp only[I8,RT.lst_row]at*)
   all_goals(try first
    |omega
    |exact(hx Dt).1
    |exact g9h k C (L.getD i stR.d)
    |(have hb:(!decide (csR k C (L.getD i stR.d)=0))=true:=by assumption
      have e:f8i k C L=1:=j3m (i:=i) Dt G3
      first|(simp[stZ,e];done)|exact e.symm)
    |exact⟨b04.isL_row _,(hx Dt).2⟩
    |exact Aa
    |exact A4)
   ·have b7:i<L.length:=Dt
    have hv:csV k C (L.getD i stR.d)=0:=Dx
    have dm:csV k C (L.getD i stR.d)≠1:=by rw[hv];decide
    have hr:csR k C (L.getD i stR.d)=0:=by have hb:(!decide (csR k C (L.getD i stR.d)=0))=false:=Dx;simpa using hb
    refine⟨i+1,⟨Dt,h0,fun j hj=> ?_⟩,E6,?_⟩
    ·by_cases e:j<i
     ·exact be j e
     ·have:j=i:=Dt
      subst this
      exact hr
    ·simp only[f0y b7 hv,d41 b7 dm,Ig]
     refine wln _ ?_;(repeat' first|constructor|refine Iu fun hu=> ?_|intro h);all_goals refine Lm ?_
     all_goals first|exact A2|exact Ad|omega|exact g9j (by simp[stR,lfL,SV.lf,b3q])|skip
   ·have b7:i<L.length:=Dt
    have hv:csV k C (L.getD i stR.d)=1:=Dx
    have dm:csV k C (L.getD i stR.d)≠0:=by rw[hv];decide
    have hr:csR k C (L.getD i stR.d)=0:=by have hb:(!decide (csR k C (L.getD i stR.d)=0))=false:=Dx;simpa using hb
    refine⟨i+1,⟨Dt,h0,fun j hj=> ?_⟩,E6,?_⟩
    ·by_cases e:j<i
     ·exact be j e
     ·have:j=i:=Dt
      subst this
      exact hr
    ·simp only[f0y b7 hv,d41 b7 dm,Ig]
     refine wln _ ?_;(repeat' first|constructor|refine Iu fun hu=> ?_|intro h);all_goals refine Lm ?_
     all_goals first|exact A2|exact Ad|omega|exact g9j (by simp[stR,lfL,SV.lf,b3q])|skip
   all_goals
    have e:f8i k C L=0:=f0c h0 fun j hj=>be j Dt
    have ei:i=L.length:=Dt
    subst ei
    try simp only[Kq,stZ,Iw e]
    first|exact A5|exact Ad|exact e.symm|skip
end Go.Proofs.YtdblhepcmjecgaaGreatDoor.V
namespace Go.Proofs.YtdblhepcmjecgaaGreatDoor.V
open Go Go.RowKit
theorem Fr.putObj{X:Nat→Prop}{B:Nat}{w W:World}{l:Nat}{o:Obj}(h:Fr B X w W)(hl:B≤l):Fr B X w (W.putObj l o):=
 h.trans ⟨rfl,rfl,rfl,fun _=>J2 _,Dv,fun i hi _=>World.putObj_heap_other Dt⟩
def SeqL{α:Type}(F:Fence)(n:Nat)(P:Program)(gf:Nat)(lb:Array Value)(encs:α→Array Value)(xs:List α)(A:World→Prop):Prop:=
 ∀(l:Nat) (J:List α→World→Prop) (W:World),(∀s W,J s W→A W)→(∀s W W',J s W→Fr W.heap.size (fun _=>False) W W'→J s W')→J [] W→
  (∀pre x suf W1,xs=pre++x::suf→J pre W1→YieldAt F (n-1) P l (encs x) W1 fun e W'=>e=.returned (.bool true)∧J (pre++[x]) W')→
  CallsIn F n P gf (#[.func (.yield l) #[] #[]]++lb) W fun e W'=>(∃v,e=.returned v)∧J xs W'
def roundL{α:Type}(B:Nat)(I:List α→World→Prop)(xs:List α)(W:World):Exit→Act→World→Prop
 |.normal,_,W'=>KeepsFrom B W W'∧I xs W'
 |_,_,_=>False
theorem f54{F:Fence}{n:Nat}{P:Program}{α:Type}{g:Operand}{ps:Array Tmp}{assign body:Code}{Q:Exit→Act→World→Prop}{a:Act}{w:World}
 (hro:F.round=none) (h1:1≤n) {gf:Nat} {lb:Array Value} (hg:a.eval g=.func (.func gf) #[] lb) (hFg:F.fn gf) (eg:∀args w,(callFunc gf args).run P w=.ok (.enter gf args) w)
 {encs:α→Array Value} {xs:List α} {A:World→Prop} (hseq:SeqL F (n-1) P gf lb encs xs A) (wh:∀x,(encs x).size=ps.size)
 (I:List α→World→Prop) (hA:∀s W,I s W→A W) (hI:∀s W W',I s W→Fr W.heap.size (fun _=>False) W W'→I s W') (Pe:∀s W l o o',I s W→w.heap.size≤l→W.heap[l]?=some o→o.isCells=false→I s (W.putObj l o'))
 (h0:I [] w) (Ax:α→Act→World→Prop) (hAx:∀x a' W l o o',Ax x a' W→w.heap.size≤l→W.heap[l]?=some o→o.isCells=false→Ax x a' (W.putObj l o'))
 (hassign:∀(l:Nat) (pre:List α) (x:α) (W:World) (K:Act→World→Prop),I pre W→(∀a' W',KeepsFrom w.heap.size W W'→I pre W'→Ax x a' W'→K a' W')→
   assign.wpIn (F.inRound l) (n-1-1) P (Exit.then K (fun _ _ _=>False)) {tmps:=(ps.zip (encs x)).foldl (fun t (p,v)=>t.setIfInBounds p v) a.tmps,defers:=[]} W)
 (hbody:∀(l:Nat) (pre:List α) (x:α) (suf:List α) (a':Act) (W:World),xs=pre++x::suf→I pre W→Ax x a' W→body.wpIn (F.inRound l) (n-1-1) P (roundL w.heap.size I (pre++[x]) W) a' W)
 (hdone:∀(D:Nat) (W:World),w.heap.size≤D→I xs W→W.heap[D]?=some (.deferred (some []))→Q .normal {a with defers:={target:=.collected D,args:=#[]}::a.defers} W):
 (Code.rangeFunc g ps assign body).wpIn F n P Q a w:=by
 refine wpIn_rangeFunc ?_
 intro fn tn
 rw[hro]
 obtain⟨rec,kj⟩:∃rec:LoopState→Option Code→Loop,rec=fun st pe=>{state:=st,pending:=pe,fn,tmps:=a.tmps,params:=ps,assign,body,defers:=w.heap.size}:=⟨_,rfl⟩
 obtain⟨W1,N5⟩:∃W1,(w.alloc (.deferred (some []))).alloc (.loop (rec .ready none))=W1:=⟨_,rfl⟩
 have hL1:W1.heap[w.heap.size+1]?=some (.loop (rec .ready none)):=by
  rw[←N5];have:=World.alloc_heap_new (w.alloc (.deferred (some []))) (.loop (rec .ready none));rwa[World.size_alloc]at this
 have hK1:W1.heap[w.heap.size]?=some (.deferred (some [])):=by
  rw[←N5];exact(Below.heap_alloc _ _ _ Dv).trans (World.alloc_heap_new w _)
 have hI1:I [] W1:=by
  rw[←N5]
  exact hI _ _ _ (hI _ _ _ h0 (Fr.alloc _ (J2 _))) (Fr.alloc _ (J2 _))
 refine⟨w.heap.size+1,[{target:=.collected w.heap.size,args:=#[]}],W1,{target:=.fn (.func gf) lb,args:=#[.func (.yield (w.heap.size+1)) #[] #[]]},W1,gf,
  #[.func (.yield (w.heap.size+1)) #[] #[]]++lb,W1,?_,?_,?_,?_,fun _=>h1,?_⟩
 ·rw[←N5,kj];exact run_enterLoop_outer _ _ _ _ _
 ·simp only[resolve,hg]
  simp[go_sem]
 ·intro f' qn;simp[Target.leads]at qn;subst qn;exact hFg
 ·simp[invoke,go_sem,eg]
 ·have keep:∀{A B:World} {k:Nat} {o:Obj},Fr A.heap.size (fun _=>False) A B→A.heap[k]?=some o→B.heap[k]?=some o:=fun hf hk=>(hf.block _ (J9.1 hk).1 (fun h=>h)).trans hk
  refine(hseq (w.heap.size+1)
   (fun pre W=>I pre W∧W.heap[w.heap.size+1]?=some (.loop (rec .ready none))∧W.heap[w.heap.size]?=some (.deferred (some [])))
   W1 (fun s W h=>hA s W h.1) (fun s W W' h hf=>⟨hI s W W' h.1 hf,keep hf h.2.1,keep hf h.2.2⟩) ⟨hI1,hL1,hK1⟩ ?_).mono ?_
  ·rintro pre x suf W gn ⟨hi,hl,hk⟩
   have h9:w.heap.size+1<W.heap.size:=(J9.1 hl).1
   have hy:=run_yield (P:=P) (args:=encs x) hl (by rw[kj];exact wh x)
   rw[kj]at hy
   refine⟨fn,_,assign,body,hy,roundIn_of_wpIn tn (hassign _ pre x W _ hi fun a' W' cm b7 Pf=> ?_)⟩
   replace hl:W'.heap[w.heap.size+1]?=some (.loop (rec .ready none)):=cm.same _ _ Dt hl rfl
   replace hk:W'.heap[w.heap.size]?=some (.deferred (some [])):=cm.same _ _ (J2 _) hk rfl
   replace h9:w.heap.size+1<W'.heap.size:=(J9.1 hl).1
   clear hi hy cm
   revert b7 Pf hl hk h9
   generalize W'=W
   intro hi Pf hl hk h9
   refine⟨_,run_beginRound hl (by rw[kj]),?_⟩
   have zf:(W.putObj (w.heap.size+1) (.loop {rec .ready none with state:=.busy})).heap[w.heap.size+1]?=some (.loop {rec .ready none with state:=.busy}):=World.putObj_heap_same h9
   have df:(W.putObj (w.heap.size+1) (.loop {rec .ready none with state:=.busy})).heap[w.heap.size]?=some (.deferred (some [])):=(World.putObj_heap_other Dt).trans hk
   refine wpIn_mono (hbody _ pre x suf _ _ gn (Pe _ _ _ _ _ hi Dt hl rfl) (hAx _ _ _ _ _ _ Pf Dt hl rfl)) ?_
   rintro e a3 W3 hp
   cases e with
   |normal=>
    obtain⟨qp,fj⟩:=hp
    have Pg:=qp.same _ _ Dt zf rfl
    have hr:=run_endRound (P:=P) none Pg
    have hl4:(W3.putObj (w.heap.size+1) (.loop (rec .ready none))).heap[w.heap.size+1]?=some (.loop (rec .ready none)):=World.putObj_heap_same (J9.1 Pg).1
    have hk4:(W3.putObj (w.heap.size+1) (.loop (rec .ready none))).heap[w.heap.size]?=some (.deferred (some [])):=(World.putObj_heap_other Dt).trans (qp.same _ _ (J2 _) df rfl)
    refine⟨.bool true,W3.putObj (w.heap.size+1) (.loop (rec .ready none)),?_,rfl,Pe _ _ _ _ _ fj Dt Pg rfl,hl4,hk4⟩
    rw[kj]at hr⊢
    exact hr
   |ret=>exact hp.elim
   |exit id=>exact hp.elim
   |goto t=>exact hp.elim
   |panic chain=>exact hp.elim
   |outgrown=>exact hp.elim
  ·rintro e W2 ⟨⟨v,rfl⟩,hi,hl,hk⟩
   have bw:(rec .ready none).state≠.busy:=by rw[kj];simp
   have hpd:(rec .ready none).pending=none:=by rw[kj]
   have hr:=run_endLoop (P:=P) hl bw
   rw[hpd]at hr
   exact⟨none,_,hr,hdone w.heap.size _ (J2 _) (Pe _ _ _ _ _ hi Dt hl rfl) ((World.putObj_heap_other Dt).trans hk)⟩
end Go.Proofs.YtdblhepcmjecgaaGreatDoor.V
namespace Go.Proofs.YtdblhepcmjecgaaGreatDoor.V
open Go Go.RowKit Go.Shelf
def isU(W H:Int)(m:Nat):Bool:=decide (b0g W H (m/3:Nat) (m%3:Nat)=0)&&decide (((m/3:Nat):Int)<b03 W H (m/3:Nat) (m%3:Nat))
def unU(m:Nat):Int×Int:=(((m/3:Nat):Int),((m%3:Nat):Int))
def b3a(W H:Int)(m:Nat):List (Int×Int):=((List.range m).filter (isU W H)).map unU
def b06(W H:Int):List (Int×Int):=b3a W H (3*(cnt W H).toNat)
theorem c5s{W H:Int}{m:Nat}(h:isU W H m=true):b3a W H (m+1)=b3a W H m++[unU m]:=by
 simp[b3a,List.range_succ,h]
theorem f41{W H:Int}{m:Nat}(h:isU W H m=false):b3a W H (m+1)=b3a W H m:=by
 simp[b3a,List.range_succ,h]
theorem c0v{W H:Int}{m:Nat}(h:isU W H m=true)(hm:m<3*(cnt W H).toNat):∃suf,b06 W H=b3a W H m++unU m::suf:=by
 have h1:List.range (m+1) <+: List.range (3*(cnt W H).toNat):=by
  refine⟨(List.range (3*(cnt W H).toNat-(m+1))).map (m+1+ ·),?_⟩
  rw[←List.range_add];congr 1;omega
 obtain⟨t,ht⟩:=(h1.filter (isU W H)).map unU
 replace ht:b3a W H (m+1)++t=b06 W H:=ht
 rw[c5s h]at ht
 exact⟨t,by rw[←ht];simp⟩
theorem j05{W H:Int}(i k:Nat)(hk:k<3):isU W H (3*i+k)=(decide (b0g W H i k=0)&&decide ((i:Int)<b03 W H i k))∧unU (3*i+k)=((i:Int),(k:Int)):=by
 have h1:(3*i+k)/3=i:=Dt
 have h2:(3*i+k)%3=k:=Dt
 simp[isU,unU,h1,h2]
def c22(w:World):Prop:=∀g t,c73 g=some t→t.pure=true∧D w (fun _=>False) b0a t (.pointer (some ⟨g,0,none⟩))
theorem c22.grow{w w':World}(h:c22 w)(hf:Fr w.heap.size (fun _=>False) w w'):c22 w':=fun g t e=>⟨(h g t e).1,(h g t e).2.keep ⟨hf.size,fun b hb _=>hf.block b hb (fun h=>h),fun _ _ h=>h,fun _ _ h=>h⟩⟩
def b1e(bx:Nat)(W H:Int)(w:World):Prop:=w.heap[bx]?=some (.cells #[.int .i64 W,.int .i64 H] 23 (0,0))
theorem b1e.c0{bx:Nat}{W H:Int}{w:World}(h:b1e bx W H w):w.cell? ⟨bx,0,none⟩=some (.int .i64 W):=by simp[World.cell?,show w.heap[bx]?=_ from h]
theorem b1e.c1{bx:Nat}{W H:Int}{w:World}(h:b1e bx W H w):w.cell? ⟨bx,1,none⟩=some (.int .i64 H):=by simp[World.cell?,show w.heap[bx]?=_ from h]
theorem d18{w:World}{W H:Int}:DL w (fun _=>False) b0a [.agg [.int .i64 W,.int .i64 H]] [.agg #[.int .i64 W,.int .i64 H]]:=by
 refine⟨rfl,fun i s v hs hv=> ?_⟩
 match i,hs,hv with
 |0,hs,hv=>
  cases hs;cases hv
  refine .agg [.int .i64 W,.int .i64 H] rfl (fun i s v hs hv=> ?_)
  match i,hs,hv with
  |0,hs,hv=>cases hs;cases hv;exact .int
  |1,hs,hv=>cases hs;cases hv;exact .int
theorem d6t{n:Nat}{W H:Int}{w:World}(hg:c22 w):CallsIn Fence.wide n Go.Proofs.Tryz.prog 103 #[.agg #[.int .i64 W,.int .i64 H]] w fun e w'=>e=.returned (.int .i64 (cnt W H))∧Fr w.heap.size (fun _=>False) w w':=by
 refine callsIn_wide.2 ((d9j.2 (fun _=>False) w [.agg [.int .i64 W,.int .i64 H]] [.agg #[.int .i64 W,.int .i64 H]] True _ (fun b h=>h.elim) hg d18 rfl trivial).mono ?_)
 rintro e w' ⟨v,rfl,hv,bg⟩
 cases hv
 exact⟨rfl,bg⟩
theorem b82{n:Nat}{W H i e:Int}{w:World}(hg:c22 w)(he:0≤e):CallsIn Fence.wide n Go.Proofs.Tryz.prog 15 #[.agg #[.int .i64 W,.int .i64 H],.int .i64 i,.int .u8 e] w fun en w'=>en=.returned (.tuple #[.int .i64 (b03 W H i e),.int .i64 (b0g W H i e)])∧Fr w.heap.size (fun _=>False) w w':=by
 refine callsIn_wide.2 ((b2f.2 (fun _=>False) w [.agg [.int .i64 W,.int .i64 H],.int .i64 i,.int .u8 e] [.agg #[.int .i64 W,.int .i64 H],.int .i64 i,.int .u8 e] (0≤e) _ (fun b h=>h.elim) hg ?_ rfl he).mono ?_)
 ·refine⟨rfl,fun j s v hs hv=> ?_⟩
  match j,hs,hv with
  |0,hs,hv=>exact d18.2 0 s v hs hv
  |1,hs,hv=>cases hs;cases hv;exact .int
  |2,hs,hv=>cases hs;cases hv;exact .int
 ·rintro en w' ⟨v,rfl,hv,bg⟩
  cases hv with
  |tup vs hl hd=>
   match vs,hl with
   | [a,b],_=>
     have h0:=hd 0 _ a rfl rfl
     have h1:=hd 1 _ b rfl rfl
     cases h0;cases h1
     exact⟨rfl,bg⟩
attribute [local go_sem] Oper.semAt_some
def g5e:Value→Nat
 |.int _ z=>z.toNat
 |_=>0
theorem c4t(k:IntKind)(z:Int):g5e (.int k z)=z.toNat:=rfl
theorem j2a {n bx : Nat} {W H : Int} (jc : b0e W H = 0) : SeqL Fence.wide n Go.Proofs.Tryz.prog 225 #[.pointer (some ⟨bx, 0, none⟩)] (fun u : Int × Int => #[.agg #[.int .i64 u.1, .int .u8 u.2]]) (b06 W H) (fun w => c22 w ∧ b1e bx W H w) := by
  intro l J w Ph Pi h0 hY
  have z := b11 jc
  have qf : cnt W H = 4 * W * H := Gh
  refine callsIn_of_wp Go.Proofs.Tryz.func225 rfl trivial ?_ rfl
  simp only [Go.Proofs.Tryz.ntmps225, Iq, Nat.reduceAdd, Nat.reduceSub]
  have ri := Ph _ _ h0
  have c0 := ri.2.c0
  have c1 := ri.2.c1
  gi_wp2_with (refine ⟨Ix, fun h => E2, ?_⟩; refine (d6t ri.1).mono ?_; rintro e w1 ⟨rfl, pz⟩)
  have hJ1 := Pi _ _ _ h0 pz
  gi_loopw [9] (fun v wr => ∃ i : Nat, v = .int .i64 i ∧ i ≤ (cnt W H).toNat ∧ J (b3a W H (3 * i)) wr) (fun v _ => (cnt W H).toNat - g5e v)
  case atStart =>
    exact ⟨0, rfl, J5 _, hJ1⟩
  case round =>
    obtain ⟨i, rfl, hi, N6⟩ := hrel
    have hI := Ph _ _ N6
    gi_wp2
    · have tp : decide ((i : Int) < 4 * (W * H)) = true := Jw Dx
      rw [tp]
      gi_loopw [12] (fun v wr => ∃ k : Nat, v = .int .u8 k ∧ k ≤ 3 ∧ J (b3a W H (3 * i + k)) wr) (fun v _ => 3 - g5e v)
      case atStart =>
        exact ⟨0, rfl, Dt, N6⟩
      case round =>
        obtain ⟨k, rfl, hk, N7⟩ := hrel
        have hK := Ph _ _ N7
        have d0 := hK.2.c0
        have d1 := hK.2.c1
        rcases M5 k 3 with qp | qp
        · obtain ⟨zg, hun⟩ := j05 (W := W) (H := H) i k qp
          have qq : inK .u8 k := Ez
          cases hu : isU W H (3 * i + k) with
          | true =>
            obtain ⟨suf, hs⟩ := c0v hu Dt
            have zh := c5s hu
            rw [hun] at hs zh
            rw [zg] at hu
            simp only [Ih] at hu
            obtain ⟨hu1, N3⟩ := hu
            gi_wp2_with (refine ⟨Ix, fun h => E2, ?_⟩; refine (b82 hK.1 (Int.natCast_nonneg k)).mono ?_; rintro e w2 ⟨rfl, rh⟩; have N8 := Pi _ _ _ N7 rh; obtain ⟨fn, tmps, assign, body, hy, hR⟩ := hY _ _ suf w2 hs N8; dsimp only at hy)
            all_goals (try omega)
            refine ⟨fun h => E2, hR.mono ?_⟩
            rintro e W3 ⟨rfl, Qh⟩
            rw [← zh] at Qh
            gi_wp2
            refine ⟨?_, ?_⟩
            · exact ⟨k + 1, Dv, Dt, Qh⟩
            · show 3 - g5e (.int .u8 (k + 1)) < 3 - g5e (.int .u8 k)
              simp only [c4t]; omega
          | false =>
            have gh := f41 hu
            rw [zg] at hu
            gi_wp2_with (refine ⟨Ix, fun h => E2, ?_⟩; refine (b82 hK.1 (Int.natCast_nonneg k)).mono ?_; rintro e w2 ⟨rfl, rh⟩; have N8 := Pi _ _ _ N7 rh)
            all_goals (try omega)
            all_goals (try (exfalso; simp_all; done))
            all_goals (refine ⟨fun _ h => E2, ?_⟩)
            all_goals gi_wp2
            all_goals rw [← gh] at N8
            all_goals refine ⟨?_, ?_⟩
            all_goals first
              | (show 3 - g5e (.int .u8 (k + 1)) < 3 - g5e (.int .u8 k)
                 simp only [c4t]; omega)
              | exact ⟨k + 1, Dv, Dt, N8⟩
        · gi_wp2
          all_goals (try omega)
          have ek : 3 * (i + 1) = 3 * i + k := Dt
          refine ⟨⟨i + 1, Dv, Dt, by rw [ek]; exact N7⟩, ?_⟩
          show (cnt W H).toNat - g5e (.int .i64 (i + 1)) < (cnt W H).toNat - g5e (.int .i64 i)
          rw [c4t, c4t]
          omega
    · go_end0
      refine ⟨⟨_, rfl⟩, ?_⟩
      have e : i = (cnt W H).toNat := Dt
      rw [e] at N6
      exact N6
end Go.Proofs.YtdblhepcmjecgaaGreatDoor.V
namespace Go.Proofs.YtdblhepcmjecgaaGreatDoor.V
open Go Go.RowKit
def b7y(w:World)(v:Value):Prop:=∀g k cap cur T z,v=.slice (some ⟨g,0,none⟩) k cap→w.heap[g]?=some (.cells cur T z)→∀u∈cur.toList,u.oneCell'=true
theorem f03{z:Array Value}(h:∀u∈z.toList,u.oneCell'=true)(n:Nat):∀u∈(Builtin.zeroCells z n).toList,u.oneCell'=true:=by
 intro u hu
 unfold Builtin.zeroCells at hu
 rw[M1,Ja]at hu
 obtain⟨i,hi,rfl⟩:=hu
 have b7:i<n*z.size:=Ej
 have dg:0<z.size:=by
  rcases Jx z.size with e|e
  ·rw[e]at b7;simp at b7
  ·exact e
 have h9:=M4 i dg
 rw[K4 z _ h9]
 exact h _ Dv
theorem c81{P:Program}(w:World)(base:Nat)(t ty e:TypeId)(i:TypeInfo)(z:Value)(size bytes:Nat)(ht:P.underlying t=some (.slice e))(hi:P.info? e=some i)(hz:i.zero=some z)
 (s6:i.size=size) (zi:i.bytes=bytes) (jk:z.cells.size=size) (bk:0<size) (qw:∀u∈z.cells.toList,u.oneCell'=true)
 (v:Value) (n:Nat) (xs:List Value) (gt:w.ownsRow base e size v n xs) (bu:b7y w v)
 (a:Addr) (m c:Nat) (news:List Value) (hl:news.length=m*size) (mf:∀j u,news[j]?=some u→w.cell? (a.add j)=some u) (h1:∀u∈news,u.oneCell'=true)
 (p9:n+m≤maxLen) (kq:(n+m)*bytes≤140737488355328) (hbase:base≤w.heap.size) (hm:0<m):
 ∃v' w',(Builtin.append_ #[t,t] ty #[v,.slice (some a) m c]).run P w=.ok v' w'∧w'.ownsRow base e size v' (n+m) (xs++news)∧w.grownBy w' v.ownBlock∧b7y w' v'∧w.drawn≤w'.drawn:=by
 obtain⟨v',w',hr,ha,hb,-⟩:=run_append_own (P:=P) w base t ty e i z size bytes ht hi hz s6 zi jk bk v n xs gt a m c news hl mf h1 p9 kq hbase
 refine⟨v',w',hr,ha,hb,?_⟩
 subst s6
 subst zi
 have hsmall:n+m≤9223372036854775807:=by simp only[maxLen]at p9;omega
 rcases gt.2 with⟨rfl,rfl⟩|⟨g,cap,cur,rfl,hbg,hg,pd,ve,dx,qg⟩
 ·have qr:=run_append_nil (P:=P) w t ty e i z ht hi hz a m c news hl mf hm Dt (by have hb:=kq;simp only[Kf]at hb;omega)
  rw[qr]at hr
  cases hr
  refine⟨?_,Nat.le_succ _⟩
  intro g k cap cur T zz hv hg u hu
  cases hv
  have hq:=Jp ((Lr w.drew _).symm.trans hg)
  cases hq
  simp only[Mg,Jf]at hu
  rcases hu with hu|hu
  ·exact h1 u Fg
  ·exact f03 qw _ u hu
 ·have tw:=bu g n cap cur e (0,0) rfl hg
  have gn:∀u∈xs,u.oneCell'=true:=fun u hu=>tw u (by rw[←qg]at hu;exact Lu hu)
  by_cases gw:n+m≤cap
  ·have hfit:n*i.size+news.length≤cur.size:=by rw[hl,dx,←Kv];exact Jt _ gw
   have qr:=run_append_room (P:=P) w t ty e i ht hi g n cap cur hg a m c news hl mf h1 gw hfit
   rw[qr]at hr
   cases hr
   refine⟨?_,J2 _⟩
   intro g' k cap' cur' T zz hv nk u hu
   cases hv
   rw[setRow_heap w g cur _ e _ hg]at nk
   cases nk
   simp only[Li,Jf]at hu
   rcases hu with hu|hu|hu
   ·exact tw u (Lu hu)
   ·exact h1 u hu
   ·exact tw u (Mc hu)
  ·have holds:∀j u,xs[j]?=some u→w.cell? ((⟨g,0,none⟩:Addr).add j)=some u:=gt.cells (g:=g) rfl
   have qr:=run_append_grow (P:=P) w t ty e i z ht hi hz ⟨g,0,none⟩ n cap xs gt.1 holds a m c news hl mf Dt Dt (growslice_fits Dt kq)
   rw[qr]at hr
   cases hr
   refine⟨?_,Nat.le_succ _⟩
   intro g' k cap' cur' T zz hv nk u hu
   cases hv
   have hq:=Jp ((Lr w.drew _).symm.trans nk)
   cases hq
   simp only[Mg,Jf]at hu
   rcases hu with(hu|hu)|hu
   ·exact gn u Fg
   ·exact h1 u Fg
   ·exact f03 qw _ u hu
theorem b9x{F:Fence}{n:Nat}{P:Program}(w:World){ops:Array Oper}{rest:List Oper}{o:Oper}{a:Act}{Q:Exit→Act→World→Prop}
 (hg:o.guard=none) (s x:Operand) (t:TypeId) (cn:o.op=Op.call {callee:=Callee.builtin Builtin.append,args:=#[s,x],argTypes:=#[t,t]})
 (base:Nat) (e:TypeId) (i:TypeInfo) (z:Value) (size bytes:Nat) (h1:P.underlying t=some (.slice e)) (h2:P.info? e=some i) (h3:i.zero=some z) (h4:i.size=size) (h5:i.bytes=bytes) (h6:z.cells.size=size) (h7:0<size) (qw:∀u∈z.cells.toList,u.oneCell'=true)
 (v:Value) (k:Nat) (xs:List Value) (hs:a.eval s=v) (gt:w.ownsRow base e size v k xs) (bu:b7y w v) (ad:Addr) (m c:Nat) (news:List Value) (hx:a.eval x=.slice (some ad) m c) (hn:news.length=m*size)
 (hc:∀j u,news[j]?=some u→w.cell? (ad.add j)=some u) (qz:∀u∈news,u.oneCell'=true) (b1:k+m≤maxLen) (b2:(k+m)*bytes≤140737488355328) (b3:base≤w.heap.size) (hm:0<m)
 (hK:∀v' w',w'.ownsRow base e size v' (k+m) (xs++news)→w.grownBy w' v.ownBlock→b7y w' v'→w.drawn≤w'.drawn→wpListIn F n P ops Q rest (a.put o.dst v') w'):
 wpListIn F n P ops Q (o::rest) a w:=by
 refine wpListIn_plain hg fun K hK'=> ?_
 obtain⟨v',w',bi,r1,r2,r3,r4⟩:=c81 (P:=P) w base t o.type e i z size bytes h1 h2 h3 h4 h5 h6 h7 qw v k xs gt bu ad m c news hn hc qz b1 b2 b3 hm
 unfold Oper.wpIn
 refine⟨?_,?_⟩
 ·simp[Oper.about,cn,resolve,Target.leads,Sem.run_pure]
 ·rw[Oper.semAt_plain F _ _ (by rw[cn];intro c fa;cases fa)]
  simp[execOp,cn,resolve,invoke,builtin,hs,hx,bi,Result.andThen]
  exact hK' _ _ (hK v' w' r1 r2 r3 r4)
end Go.Proofs.YtdblhepcmjecgaaGreatDoor.V
namespace Go.Proofs.YtdblhepcmjecgaaGreatDoor.V
open Go Go.RowKit Go.Shelf
attribute [local go_sem] Oper.semAt_some
theorem d8q{n:Nat}{W H:Int}{w:World}(hg:c22 w):CallsIn Fence.wide n Go.Proofs.Tryz.prog 8 #[.agg #[.int .i64 W,.int .i64 H]] w fun e w'=>e=.returned (.int .i64 (b0e W H))∧Fr w.heap.size (fun _=>False) w w':=by
 refine callsIn_wide.2 ((b2c.2 (fun _=>False) w [.agg [.int .i64 W,.int .i64 H]] [.agg #[.int .i64 W,.int .i64 H]] True _ (fun b h=>h.elim) hg d18 rfl trivial).mono ?_)
 rintro e w' ⟨v,rfl,hv,bg⟩
 cases hv
 exact⟨rfl,bg⟩
theorem f6u{n:Nat}{W H:Int}{w:World}:CallsIn Fence.wide n Go.Proofs.Tryz.prog 188 #[.agg #[.int .i64 W,.int .i64 H]] w fun e w'=>e=.returned (.func (.func 225) #[] #[.pointer (some ⟨w.heap.size,0,none⟩)])∧w'=w.alloc (.cells #[.int .i64 W,.int .i64 H] 23):=by
 refine callsIn_of_wp Go.Proofs.Tryz.func188 rfl trivial ?_ rfl
 simp only[Go.Proofs.Tryz.ntmps188,Iq,Nat.reduceAdd,Nat.reduceSub]
 gi_wp2
 go_ret
 exact C3
theorem f35{n g k cap:Nat}{w:World}(hk:k≤cap)(_:cap≤maxLen):CallsIn Fence.wide n Go.Proofs.Tryz.prog 189 #[.slice (some ⟨g,0,none⟩) k cap] w fun e w'=>e=.returned (.slice (some ⟨g,0,none⟩) k k)∧w'=w:=by
 refine callsIn_of_wp Go.Proofs.Tryz.func189 rfl trivial ?_ rfl
 simp only[Go.Proofs.Tryz.ntmps189,Iq,Nat.reduceAdd,Nat.reduceSub]
 gi_wp2
 go_ret
 exact C3
def b57(l:List (Int×Int)):List Value:=l.flatMap fun u=>[.int .i64 u.1,.int .u8 u.2]
theorem infoU:(Go.Proofs.Tryz.prog.info? 100).map (fun i=>(i.zero,i.size,i.bytes))=some (some (.agg #[.int .i64 0,.int .u8 0]),2,16):=Du
theorem f4g(l:List (Int×Int)):(b57 l).length=l.length*2:=by
 induction l with
 |nil=>rfl
 |cons u l ih=>
  have:b57 (u::l)=[.int .i64 u.1,.int .u8 u.2]++b57 l:=by simp[b57]
  rw[this,Jj,ih];simp;omega
theorem d7b(l:List (Int×Int))(u:Int×Int):b57 (l++[u])=b57 l++[.int .i64 u.1,.int .u8 u.2]:=by simp[b57]
theorem b6s(W H:Int):(b06 W H).length≤3*(cnt W H).toNat:=by
 unfold b06 b3a
 rw[Js]
 exact L3 (List.length_filter_le _ _) Dv
theorem f8g{P:Program}{t:TypeId}{z:Value}{m b:Nat}(h:(P.info? t).map (fun i=>(i.zero,i.size,i.bytes))=some (some z,m,b)):∃i,P.info? t=some i∧i.zero=some z∧i.size=m∧i.bytes=b:=by
 obtain⟨i,h1,h2⟩:=J1.1 h
 simp only[Prod.mk.injEq]at h2
 exact⟨i,h1,h2.1,h2.2.1,h2.2.2⟩
theorem b1e.alloc{bx:Nat}{W H:Int}{w:World}(h:b1e bx W H w)(o:Obj):b1e bx W H (w.alloc o):=(Below.heap_alloc w o bx (J9.1 h).1).trans h
theorem g4c{w w1:World}{W H:Int}(hf:Fr (w.alloc (.cells #[.int .i64 W,.int .i64 H] 23)).heap.size (fun _=>False) (w.alloc (.cells #[.int .i64 W,.int .i64 H] 23)) w1):b1e w.heap.size W H w1:=by
 have h:=hf.block w.heap.size Dv (fun h=>h)
 rw[World.alloc_heap_new]at h
 exact h
theorem d49{V:World}{base:Nat}{e:TypeId}{m:Nat}{v:Value}{k:Nat}{xs:List Value}(h8:V.ownsRow base e m v k xs)(bu:b7y V v)(o:Obj):b7y (V.alloc o) v:=by
 intro g k' cap cur T z hv hg
 rcases h8.2 with⟨hn,_⟩|⟨g2,cap2,cur2,jf,hb,jg,rest⟩
 ·rw[hn]at hv;cases hv
 ·rw[jf]at hv
  cases hv
  have:=(Below.heap_alloc V o g (J9.1 jg).1).trans jg
  rw[hg]at this
  cases this
  exact bu g _ _ cur _ _ jf jg
theorem f3p{V:World}{BO base:Nat}{t e:TypeId}{m:Nat}{u v:Value}{k:Nat}{xs:List Value}(hte:t≠e)(np:Boxed V BO t u)(h8:V.ownsRow base e m v k xs)(bu:b7y V v):b7y (V.setCell ⟨BO,0,none⟩ v) v:=by
 intro g k' cap cur T z hv hg
 rcases h8.2 with⟨hn,_⟩|⟨g2,cap2,cur2,jf,hb,jg,rest⟩
 ·rw[hn]at hv;cases hv
 ·rw[jf]at hv
  cases hv
  have bb:g≠BO:=fun e2=>by
   subst e2
   have:=(show V.heap[g]?=_ from np).symm.trans jg
   simp at this
   exact hte this.2
  have:=(Below.heap_setCell V ⟨BO,0,none⟩ v g bb).trans jg
  rw[hg]at this
  cases this
  exact bu g _ _ cur _ _ jf jg
theorem f60{V w2:World}{BO bx base:Nat}{t e:TypeId}{m:Nat}{u v v':Value}{k:Nat}{xs:List Value}{W H:Int}{tmp:Obj}(h1:23≠e)(hS:b1e bx W H V)(np:Boxed w2 BO t u)(h8:V.ownsRow base e m v k xs)(db:(V.alloc tmp).grownBy w2 v.ownBlock):b1e bx W H (w2.setCell ⟨BO,0,none⟩ v'):=by
 have hA:=hS.alloc tmp
 have bb:some bx≠v.ownBlock:=fun e2=>by
  rcases h8.2 with⟨hn,_⟩|⟨g2,cap2,cur2,jf,hb,jg,rest⟩
  ·rw[hn]at e2;cases e2
  ·rw[jf]at e2
   have e3:bx=g2:=by simpa[Value.ownBlock]using e2
   subst e3
   have:=(show V.heap[bx]?=_ from hS).symm.trans jg
   simp at this
   exact h1 this.2
 have hB:b1e bx W H w2:=(db.block bx (J9.1 hA).1 bb).trans hA
 have hne2:bx≠BO:=fun e2=>by
  subst e2
  have:=(show w2.heap[bx]?=_ from np).symm.trans hB
  simp at this
 exact(Below.heap_setCell w2 ⟨BO,0,none⟩ v' bx hne2).trans hB
theorem d30(w:World)(x y:Value)(t:TypeId):∀j u,[x,y][j]?=some u→(w.alloc (.cells #[x,y] t)).cell? ((⟨w.heap.size,0,none⟩:Addr).add j)=some u:=by
 intro j u hj
 match j,hj with
 |0,hj=>
  simp at hj
  subst hj
  simp[Addr.add]
 |1,hj=>
  simp at hj
  subst hj
  simp[Addr.add]
 |j+2,hj=>simp at hj
theorem d4a{W H:Int}(jc:b0e W H=0):0<(b06 W H).length:=by
 have z:=b11 jc
 have qf:cnt W H=4*W*H:=Gh
 have h1:b5p W H 0=0:=by
  unfold b5p
  rw[Iw jc,Iw]
  simp[g3z];omega
 have hu:isU W H 1=true:=by
  have e1:ceX W H 0=0:=by unfold ceX;rw[if_pos h1];simp
  have e2:ceY W H 0=0:=by unfold ceY;rw[if_pos h1];simp
  have e3:ceQ W H 0=0:=by unfold ceQ;rw[if_pos h1];simp
  have n0:b3t 0 0 0 1=0:=Dy
  have n1:nbX 0 0 0 1=0:=Dy
  have n2:nbY 0 0 0 1=0:=Dy
  have n3:nbQ 0 0 0 1=1:=Dy
  have i0:b7w W H 0 0 1=0:=by
   unfold b7w
   rw[Iw jc,Iw ⟨Dy,Dt,Dt,Dt,Dt⟩]
  have i1:c41 W H 0 0 1=1:=by
   unfold c41
   rw[Iw i0];omega
  have a1:b0g W H 0 1=0:=by
   unfold b0g
   rw[Iw h1,e1,e2,e3,Iw n0,n1,n2,n3];exact i0
  have a2:b03 W H 0 1=1:=by
   unfold b03
   rw[Iw h1,e1,e2,e3,Iw n0,n1,n2,n3];exact i1
  have:=(j05 (W:=W) (H:=H) 0 1 Dt).1
  rw[show 3*0+1=1 from rfl]at this
  rw[this]
  rw[show ((0:Nat):Int)=0 from rfl,show ((1:Nat):Int)=1 from rfl,a1,a2]
  rfl
 obtain⟨suf,hs⟩:=c0v hu Dt
 rw[hs]
 simp
 omega
theorem g8n{B B':Nat}{a b:World}(h:Fr B (fun _=>False) a b)(hB:B'≤B):Fr B' (fun _=>False) a b:=⟨h.os,h.tape,h.output,h.drawn,h.size,fun i hi hx=>h.block i Dt hx⟩
theorem c2q{base BO bx:Nat}{t e:TypeId}{W H:Int}{w V V':World}{k:Nat}{xs:List Value}(h:(∃v,Boxed V BO t v∧V.ownsRow base e 2 v k xs∧b7y V v)∧b1e bx W H V∧Fr base (fun _=>False) w V)
 (hk:∀(g:Nat) (c:Array Value) (T:TypeId) (z:Nat×Nat),V.heap[g]?=some (Obj.cells c T z)→V'.heap[g]?=some (Obj.cells c T z)) (hf:Fr base (fun _=>False) V V'):(∃v,Boxed V' BO t v∧V'.ownsRow base e 2 v k xs∧b7y V' v)∧b1e bx W H V'∧Fr base (fun _=>False) w V':=by
 obtain⟨⟨v,hv,h8,bu⟩,hS,hB⟩:=h
 refine⟨⟨v,hk _ _ _ _ hv,⟨h8.1,?_⟩,?_⟩,hk _ _ _ _ hS,hB.trans hf⟩
 ·rcases h8.2 with hn|⟨g,cap,cur,rfl,hb,jg,rest⟩
  ·exact .inl hn
  ·exact .inr ⟨g,cap,cur,rfl,hb,hk _ _ _ _ jg,rest⟩
 ·intro g k' cap cur T z dm hg
  rcases h8.2 with⟨hn,_⟩|⟨g2,cap2,cur2,jf,hb,jg,rest⟩
  ·rw[hn]at dm;cases dm
  ·rw[jf]at dm
   cases dm
   have:=hk _ _ _ _ jg
   rw[hg]at this
   cases this
   exact bu g _ _ cur _ _ jf jg
theorem d8f{n:Nat}(hn:3≤n){W H:Int}(jc:b0e W H=0){w:World}(hg:c22 w):CallsIn Fence.wide n Go.Proofs.Tryz.prog 116 #[.agg #[.int .i64 W,.int .i64 H]] w fun e w'=>∃(b:Nat) (vs:List Value),e=.returned (.tuple #[.slice (some ⟨b,0,none⟩) (b06 W H).length (b06 W H).length,.int .i64 0])∧w.heap.size≤b∧w'.heap[b]?=some (.cells (List.toArray vs) 100 (0,0))∧vs.take ((b06 W H).length*2)=b57 (b06 W H)∧(∀v∈vs,v.oneCell'=true)∧Fr w.heap.size (fun _=>False) w w':=by
 have z:=b11 jc
 have qf:cnt W H=4*W*H:=Gh
 have gv:=b6s W H
 have hul2:3*(cnt W H).toNat≤3072:=Dt
 obtain⟨i0,hi,Nx,qw,vw⟩:=f8g infoU
 refine callsIn_of_wp_marks Go.Proofs.Tryz.func116 rfl trivial ?_ rfl
 simp only[Go.Proofs.Tryz.ntmps116,Iq,Nat.reduceAdd,Nat.reduceSub]
 gi_wp2_with (refine⟨Ix,fun h=>E2,?_⟩;first|(refine(d8q (hg.grow (Fr.alloc _ (J2 _)))).mono ?_;rintro e w1 ⟨rfl,pz⟩;have hbx:=g4c pz;have zi:=hbx.alloc (.cells #[.slice none 0 0] 150);have me:=zi.c0;have ww:=zi.c1)|(refine(f6u).mono ?_;rintro e w2 ⟨rfl,rfl⟩))
 obtain⟨W0,zj⟩:∃W0,((w1.alloc (.cells #[.slice none 0 0] 150)).alloc (.cells #[.int .i64 W,.int .i64 H] 23))=W0:=⟨_,rfl⟩
 have bv:W0.heap.size=w1.heap.size+2:=by rw[←zj];simp
 have py:w.heap.size+1≤w1.heap.size:=by have:=pz.size;simpa using this
 have bO:Boxed W0 w1.heap.size 150 (.slice none 0 0):=by rw[←zj];exact(Boxed.new w1 150 (.slice none 0 0)).alloc _
 have bS:b1e (w1.heap.size+1) W H W0:=by
  rw[←zj]
  have:=World.alloc_heap_new (w1.alloc (.cells #[.slice none 0 0] 150)) (.cells #[.int .i64 W,.int .i64 H] 23)
  rw[World.size_alloc]at this
  exact this
 have Qi:Fr w.heap.size (fun _=>False) w W0:=by
  rw[←zj]
  have h1:Fr w.heap.size (fun _=>False) w w1:=(Fr.alloc _ (J2 _)).trans (g8n pz Dv)
  exact(h1.trans (Fr.alloc _ Dt)).trans (Fr.alloc _ E5)
 rw[zj]
 refine f54 rfl Dt (gf:=225) (lb:=#[.pointer (some ⟨w1.heap.size+1,0,none⟩)]) rfl trivial (enters_of Go.Proofs.Tryz.func225 Du rfl) (j2a (bx:=w1.heap.size+1) jc) (fun _=>rfl)
  (fun pre V=>(∃v,Boxed V w1.heap.size 150 v∧V.ownsRow w.heap.size 100 2 v pre.length (b57 pre)∧b7y V v)∧b1e (w1.heap.size+1) W H V∧Fr w.heap.size (fun _=>False) w V)
  (fun s V h=>⟨hg.grow h.2.2,h.2.1⟩)
  (fun s V V' h hf=>c2q h (fun g c T z hc=>(hf.block g (J9.1 hc).1 (fun h=>h)).trans hc) (g8n hf h.2.2.size))
  (fun s V l o o' h hl ho hc=>c2q h (fun g c T z hg=>(World.putObj_heap_other (fun e=>by subst e;rw[hg]at ho;cases ho;cases hc)).trans hg) (Fr.putObj (Fr.refl _ _ _) Dt))
  ⟨⟨_,bO,World.ownsRow_nil _ _ _ _,fun g k cap cur T z hv=>by cases hv⟩,bS,Qi⟩
  (fun x a' V=>∃Bx,w1.heap.size+1<Bx∧V.heap[Bx]?=some (.cells #[.int .i64 x.1,.int .u8 x.2] 100 (0,0))∧a'={tmps:=#[.agg #[.int .i64 W,.int .i64 H],.pointer (some ⟨w.heap.size,0,none⟩),.slice none 0 0,.int .i64 0,.int .i64 0,.pointer (some ⟨w1.heap.size,0,none⟩),.pointer (some ⟨Bx,0,none⟩),.agg #[.int .i64 W,.int .i64 H],.int .i64 0,.int .i64 0,.bool false,undef,.agg #[.int .i64 W,.int .i64 H],.func (.func 225) #[] #[.pointer (some ⟨w1.heap.size+1,0,none⟩)],.agg #[.int .i64 x.1,.int .u8 x.2],undef,undef,undef,undef,undef,undef],defers:=[]})
  (fun x a' V l o o' ⟨Bx,h1,h2,h3⟩ hl ho hc=>⟨Bx,h1,(World.putObj_heap_other (fun e=>by subst e;rw[h2]at ho;cases ho;cases hc)).trans h2,h3⟩) ?assign ?body ?done
 case assign=>
  rintro l pre x V K hI hK
  have h9:=hI.2.2.size
  have cx:w1.heap.size+1<V.heap.size:=(J9.1 hI.2.1).1
  gi_wp2
  exact hK _ _ ((KeepsOthers.alloc _ _).from _) (c2q hI (fun g c T z hg=>(Below.heap_alloc V _ g (J9.1 hg).1).trans hg) (Fr.alloc _ h9)) ⟨V.heap.size,cx,World.alloc_heap_new V _,rfl⟩
 case body=>
  rintro l pre x suf a' V gn ⟨⟨v,hv,h8,bu⟩,hS,hB⟩ ⟨Bx,hBx,bX,rfl⟩
  have hc:=hv.cell
  have x0:V.cell? ⟨Bx,0,none⟩=some (.int .i64 x.1):=by simp[World.cell?,bX]
  have x1:V.cell? ⟨Bx,1,none⟩=some (.int .u8 x.2):=by simp[World.cell?,bX]
  have fm:pre.length+1≤3072:=by
   have:=Lc List.length gn
   simp only[Jj,K3]at this
   omega
  have bk:=hB.size
  gi_wp2_with (gi_at_builtin;refine b9x _ rfl _ _ 150 rfl w.heap.size 100 i0 (.agg #[.int .i64 0,.int .u8 0]) 2 16 Go.Proofs.Tryz.underlying150 hi Nx qw vw rfl Dy (by simp[Value.cells,Value.oneCell']) _ _ _ rfl (h8.alloc _) (d49 h8 bu _) ⟨V.heap.size,0,none⟩ 1 1 [.int .i64 x.1,.int .u8 x.2] rfl rfl (d30 _ _ _ _) (by simp[Value.oneCell']) Ep Dt E5 Dt ?_;intro v' w2 qh db hone' wb;obtain⟨g',cap',rfl⟩:=ownsRow_succ qh;obtain⟨np,jf,qr,df,rj⟩:=hv.appended Dy h8 bk Dt qh db;have vu:=np.cell;have pz:=np.frozen)
  exact⟨df.from _,⟨_,jf,by rw[d7b,Jj];exact qr,f3p Dy np qh hone'⟩,f60 Dy hS np h8 db,hB.trans ⟨rj.os,rj.tape,rj.output,fun _=>wb,rj.size,fun i hi _=>rj.block i hi⟩⟩
 case done=>
  rintro D V hD ⟨⟨v,hv,h8,bu⟩,hS,hB⟩ hK
  have hc:=hv.cell
  have dg:=d4a jc
  rcases h8.2 with⟨_,h0⟩|⟨g,cap,cur,rfl,hb,jg,pd,ve,dx,qg⟩
  ·omega
  ·gi_wp2_with (refine⟨Ix,fun h=>E2,?_⟩;refine(f35 pd ve).mono ?_;rintro e w2 ⟨rfl,rfl⟩)
   have bb:g≠D:=fun e=>by subst e;rw[jg]at hK;cases hK
   refine⟨Dv,.inl ⟨_,_,rfl,run_takeDeferred hK,?_⟩⟩
   refine⟨.tuple #[.slice (some ⟨g,0,none⟩) (b06 W H).length (b06 W H).length,.int .i64 0],by simp[results,Go.Proofs.Tryz.f116,go_sem],g,cur.toList,rfl,hb,?_,qg,bu g _ _ cur _ _ rfl jg,hB.trans (Fr.putObj (Fr.refl _ _ _) (by have:=Qi.size;omega))⟩
   rw[World.putObj_heap_other bb,jg]
end Go.Proofs.YtdblhepcmjecgaaGreatDoor.V
namespace Go.Proofs.YtdblhepcmjecgaaGreatDoor.V
open Go
def unR:RT (Int×Int):=⟨2,fun u=>[.int .i64 u.1,.int .u8 u.2],fun l=>match l with
 | [.int _ a,.int _ b]=>(a,b)
 |_=>(0,0),(0,0),fun _=>rfl⟩
def unZ(W H:Int):List (Int×Int):=if b0e W H=0 then b06 W H else []
def d9c(W H:Int):SV:=.tup [.sl 2 (unZ W H).length (unR.row (unZ W H)) none,.int .i64 (b0e W H)]
abbrev f07:FuncId:=116
def kUnE:Kon
 | [.agg [.int .i64 W,.int .i64 H]]=>some (¬b0e W H=0,.tup [.sl 2 0 (fun _=>[]) none,.int .i64 (b0e W H)])
 |_=>none
def FUnE:Fam:=⟨Int×Int,fun(W,H)=>[.agg [.int .i64 W,.int .i64 H]],fun(W,H)=>¬b0e W H=0,fun(W,H)=>.tup [.sl 2 0 (fun _=>[]) none,.int .i64 (b0e W H)]⟩
theorem pUnE:PS f07 kUnE:=by
 refine con [(b4d,b0z)] H3 FUnE (fun _ _=>none) kUnE ?_ ?_ Go.Proofs.Tryz.func116 Du Du Du ?_
 ·intro args pre s h hp
  unfold kUnE at h
  split at h
  ·rename_i W H
   cases h
   exact Dp
  ·cases h
 ·exact Bu
 ·rintro⟨W,H⟩ hp
  replace hp:¬b0e W H=0:=hp
  refine wlk _ ?_;(repeat' first|constructor|refine Iu fun hu=> ?_|intro h);all_goals refine Lm ?_
  all_goals first|exact A5|exact hp E1|skip
def d28:Kon
 | [.agg [.int .i64 W,.int .i64 H]]=>some (True,d9c W H)
 |_=>none
theorem d5r:∀(l:List (Int×Int)) (i:Nat),i<l.length→(b57 l)[i*2]?=some (.int .i64 (l.getD i unR.d).1)∧(b57 l)[i*2+1]?=some (.int .u8 (l.getD i unR.d).2)
 | [],i,h=>absurd h (Je _)
 |u::l,0,_=>⟨rfl,rfl⟩
 |u::l,i+1,h=>by
  have e:b57 (u::l)=.int .i64 u.1::.int .u8 u.2::b57 l:=by simp[b57]
  have:=d5r l i E1
  rw[e,show (i+1)*2=i*2+1+1 from Dt]
  exact this
theorem j06:PS f07 d28:=by
 refine⟨pUnE.1,fun A w args vals pre s hA hg hD hk hp=> ?_⟩
 unfold d28 at hk
 split at hk
 rotate_left
 ·cases hk
 rename_i W H
 cases hk
 by_cases jc:b0e W H=0
 ·have hz:unZ W H=b06 W H:=Iw jc
  have z:=b11 jc
  have qf:cnt W H=4*W*H:=Gh
  have gv:=b6s W H
  have Qj:=d4a jc
  have hgo:c22 w:=fun g t e=>⟨(hg g t e).1,b0i (fun _ h=>h.elim) (hg g t e).2 (hg g t e).1⟩
  obtain⟨hl,hD⟩:=hD
  match vals,hl with
  | [v0],_=>
    have h0:=hD 0 _ v0 rfl rfl
    cases h0 with
    |agg us hl hd=>
     match us,hl with
     | [a,b],_=>
       have h1:=hd 0 _ a rfl rfl
       have h2:=hd 1 _ b rfl rfl
       cases h1;cases h2
       refine(callsIn_wide.1 (d8f (n:=3) (J2 _) jc hgo)).mono ?_
       rintro e w' ⟨b,vs,rfl,g1,g2,g3,g4,g5⟩
       refine⟨_,rfl,?_,g5⟩
       have b8:(b06 W H).length*2≤vs.length:=by
        have:=Lc List.length g3
        rw[List.length_take,f4g]at this
        omega
       have zg:∀k,k<(b06 W H).length*2→vs[k]?=(b57 (b06 W H))[k]?:=fun k hk=>by rw[←g3,List.getElem?_take,Iw hk]
       have h8:D w' A b0a (.sl 2 (b06 W H).length (unR.row (b06 W H)) none) (.slice (some ⟨b,0,none⟩) (b06 W H).length (b06 W H).length):=by
        refine g7y (H:=A) (μ:=b0a) (T:=100) (fun _ h=>h) (fun b' r9 jm=> ?_) ⟨_,_,rfl,J2 _,Ep,.inl rfl,fun i hi=>⟨rfl,rfl⟩,.inr ⟨b,0,vs,Qj,rfl,g2,Dt,g4,fun i j s v hi hs hv=> ?_⟩⟩
        ·have:b'=b:=(b5i Qj).1 r9
         have:=hA b' jm
         omega
        ·obtain⟨c1,c2⟩:=d5r (b06 W H) i hi
         match j,hs,hv with
         |0,hs,hv=>
          rw[show 0+i*2+0=i*2 from Dt,zg _ Dt,c1]at hv
          cases hs;cases hv
          exact .int
         |1,hs,hv=>
          rw[show 0+i*2+1=i*2+1 from Dt,zg _ Dt,c2]at hv
          cases hs;cases hv
          exact .int
         |j+2,hs,hv=>simp[RT.row,unR]at hs
       unfold d9c
       rw[hz,jc]
       refine .tup _ rfl (fun i s v hs hv=> ?_)
       match i,hs,hv with
       |0,hs,hv=>cases hs;cases hv;exact h8
       |1,hs,hv=>cases hs;cases hv;exact .int
       |i+2,hs,hv=>simp at hs
 ·have hz:unZ W H=[]:=Iy jc
  have hs:d9c W H=.tup [.sl 2 0 (unR.row []) none,.int .i64 (b0e W H)]:=by unfold d9c;rw[hz];rfl
  refine(pUnE.2 A w _ vals _ _ hA hg hD rfl jc).mono ?_
  rintro e w' ⟨v,rfl,hv,hf⟩
  refine⟨v,rfl,?_,hf⟩
  rw[hs]
  exact b37 hv ⟨by simp[SV.le1,SV.le0,b3q],by simp[SV.le1,SV.le0],Ix⟩
def b6x(k C s:Int):Int:=if b08 k C=0∧¬1<s then 0 else 1
abbrev c0z:FuncId:=66
def b7i:Kon
 | [.agg [.int .u8 k,.int .i64 C,.int .u8 s,.bool _]]=>some (True,.int .i64 (b6x k C s))
 |_=>none
def g6q:Fam:=⟨Int×Int×Int×Bool,fun(k,C,s,o)=>[.agg [.int .u8 k,.int .i64 C,.int .u8 s,.bool o]],fun _=>True,fun(k,C,s,_)=>.int .i64 (b6x k C s)⟩
theorem g6c:PS c0z b7i:=by
 refine con [(b9c,b5v)] (by simpa using c2a) g6q (fun _ _=>none) b7i ?_ ?_ Go.Proofs.Tryz.func66 Du Du Du ?_
 ·intro args pre s h hp
  unfold b7i at h
  split at h
  ·rename_i k C s o
   cases h
   exact⟨(k,C,s,o),⟨E8,Ix⟩,Ix,rfl⟩
  ·cases h
 ·exact Bu
 ·rintro⟨k,C,s,o⟩ _
  refine wlk _ ?_;(repeat' first|constructor|refine Iu fun hu=> ?_|intro h);all_goals refine Lm ?_
  all_goals(unfold b6x;simp at h;first|exact(if_neg Dt).symm|exact(if_pos Dt).symm)
def csvC(k C:Int)(c:Cl):Int:=d5k k C c.x c.y c.q
def g2g(k C:Int)(c:Cl):Int:=c42 k C c.x c.y c.q
def psS(k C:Int)(p:Pt)(r:Mv):List Int:=(b01 p r).map (csvC k C)
def psBad(k C:Int)(p:Pt)(r:Mv):Bool:=(b01 p r).any fun c=> !decide (g2g k C c=0)
def psE(k C:Int)(p:Pt)(r:Mv):Int:=if b0w p r=0 then(if psBad k C p r=true then 1 else 0)else b0w p r
def psT(p:Pt)(sd:List Int)(u:Int×Int):Bool:= !decide (sd.getD u.1.toNat b04.d=sd.getD (b03 p.W p.H u.1 u.2).toNat b04.d)&&decide (kdV p u.1 u.2=0)
def psF(p:Pt)(sd:List Int)(l:List (Int×Int)):List (Int×Int):=l.filter (psT p sd)
def f67(k C:Int)(p:Pt)(r:Mv):SV:=.tup [.sl 2 (zL (psE k C p r) (psF p (psS k C p r) (b06 p.W p.H))).length (unR.row (zL (psE k C p r) (psF p (psS k C p r) (b06 p.W p.H)))) none,.sl 1 (zL (psE k C p r) (psS k C p r)).length (b04.row (zL (psE k C p r) (psS k C p r))) none,.int .i64 (psE k C p r)]
abbrev c57:FuncId:=67
def c0k:Kon
 | [x,.agg [.int .u8 k,.int .i64 C]]=>(b3z x).map fun q=>(q.1,f67 k C q.2.1 q.2.2.1)
 |_=>none
def j0f:Fam:=⟨(Pt×Mv×List Stk)×Int×Int,fun((p,r,L),k,C)=>[.agg (stC p r L),.agg [.int .u8 k,.int .i64 C]],fun((p,r,L),_)=>b5n p r∧b2b L,fun((p,r,_),k,C)=>f67 k C p r⟩
def psOwn(p:Pt)(r:Mv)(L:List Stk)(k C:Int)(f:Nat→List SV)(rest:List Blk):List Blk:=.cells 31 (stC p r L)::.cells 89 [.int .u8 k,.int .i64 C]::.row 3 1 (b01 p r).length f none::rest
def j44:(Pt×Mv×List Stk)×Int×Int→Nat→Option Inv
 |((p,r,L),k,C),6=>some {β:=Nat,ok:=fun i=>i≤(b01 p r).length∧∀j,j<i→g2g k C ((b01 p r).getD j clR.d)=0,st:=fun i=>⟨[⟨36,none,.int .i64 i⟩,⟨35,none,.int .i64 (b01 p r).length⟩,⟨34,none,.sl 3 (b01 p r).length (clR.row (b01 p r)) none⟩,⟨9,none,.osl 2⟩,⟨3,none,.own 1 0⟩,⟨2,none,.own 0 0⟩],psOwn p r L k C (fun j=>b04.sv (upto (fun j=>csvC k C ((b01 p r).getD j clR.d)) (fun _=>0) i j)) []⟩,μ:=fun i=>(b01 p r).length-i}
 |((p,r,L),k,C),17=>some {β:=Nat,ok:=fun i=>i≤(b06 p.W p.H).length,st:=fun i=>⟨[⟨66,none,.int .i64 i⟩,⟨65,none,.int .i64 (b06 p.W p.H).length⟩,⟨64,none,.sl 2 (b06 p.W p.H).length (unR.row (b06 p.W p.H)) none⟩,⟨13,none,.osl 3⟩,⟨9,none,.osl 2⟩,⟨2,none,.own 0 0⟩],psOwn p r L k C (b04.row (psS k C p r)) [.row 100 2 (psF p (psS k C p r) ((b06 p.W p.H).take i)).length (unR.row (psF p (psS k C p r) ((b06 p.W p.H).take i))) none]⟩,μ:=fun i=>(b06 p.W p.H).length-i,nl:=[.slot 13 100 2]}
 |_,_=>none
theorem csE_or(k C:Int)(c:Cl):g2g k C c=0∨g2g k C c=1:=by
 unfold g2g c42
 split
 ·exact .inl rfl
 ·exact .inr rfl
theorem ps_bad{k C:Int}{p:Pt}{r:Mv}{i:Nat}(hb:b0w p r=0)(h:i<(b01 p r).length)(hd:¬g2g k C ((b01 p r).getD i clR.d)=0):psE k C p r=1:=by
 unfold psE
 rw[Iw hb,Iw]
 exact Jc.2 ⟨_,b0c (d:=clR.d) h,by rw[Jq hd];rfl⟩
theorem j0k{k C:Int}{p:Pt}{r:Mv}(hb:b0w p r=0)(h:∀j,j<(b01 p r).length→g2g k C ((b01 p r).getD j clR.d)=0):psE k C p r=0:=by
 unfold psE
 rw[Iw hb,Iy]
 intro hh
 obtain⟨c,hc,hd⟩:=Jc.1 hh
 obtain⟨i,hi,rfl⟩:=b2v (d:=clR.d) hc
 rw[h i hi]at hd
 exact absurd hd Dy
theorem ps_row{k C:Int}{p:Pt}{r:Mv}{j:Nat}(hj:j<(b01 p r).length):b04.sv (upto (fun j=>csvC k C ((b01 p r).getD j clR.d)) (fun _=>0) (b01 p r).length j)=b04.row (psS k C p r) j:=by
 rw[b9z _ _ hj]
 simp[psS,RT.row,hj]
theorem j2j{p:Pt}{sd:List Int}{l:List (Int×Int)}{i:Nat}(h:i<l.length)(hd:psT p sd (l.getD i unR.d)=true):psF p sd (l.take (i+1))=psF p sd (l.take i)++[l.getD i unR.d]:=by
 rw[b0u (d:=unR.d) h];unfold psF;rw[List.filter_append]
 generalize l.getD i unR.d=x at*
 simp[hd]
theorem d99{p:Pt}{sd:List Int}{l:List (Int×Int)}{i:Nat}(h:i<l.length)(hd:psT p sd (l.getD i unR.d)=false):psF p sd (l.take (i+1))=psF p sd (l.take i):=by
 rw[b0u (d:=unR.d) h];unfold psF;rw[List.filter_append]
 generalize l.getD i unR.d=x at*
 simp[hd]
theorem psF_le{p:Pt}{sd:List Int}{l:List (Int×Int)}{i:Nat}:(psF p sd (l.take i)).length≤l.length:=by
 unfold psF
 exact Ce
theorem c6b{W H:Int}(hs:b0e W H=0){u:Int×Int}(hu:u∈b06 W H):(0≤u.1∧u.1<nOf W H)∧(0≤u.2∧u.2<3)∧b0g W H u.1 u.2=0∧0≤b03 W H u.1 u.2∧b03 W H u.1 u.2<nOf W H:=by
 have hN:=b1b hs
 have hc:cnt W H=4*W*H:=Fx
 unfold b06 b3a at hu
 simp only[Ja,Kg,K1]at hu
 obtain⟨m,⟨hm,hq⟩,rfl⟩:=hu
 unfold isU at hq
 simp only[Ih]at hq
 have h1:((m/3:Nat):Int)<4*W*H:=Dt
 have h2:(0:Int)≤((m%3:Nat):Int)∧((m%3:Nat):Int)<3:=Dt
 have:=(b56 hs Dt h1 h2 hq.1).1
 refine⟨⟨by show (0:Int)≤((m/3:Nat):Int);omega,by show ((m/3:Nat):Int)<_;omega⟩,h2,hq.1,this.1,by show b03 W H ((m/3:Nat):Int) ((m%3:Nat):Int)<_;omega⟩
theorem j39:PS c57 c0k:=by
 refine con [(c2w,b9y),(c65,b86),(f07,d28),(b31,b1i),(f1z,c94)] (by simpa using⟨c7g,d4c,j06,b2f,f6t⟩) j0f j44 c0k ?_ ?_ Go.Proofs.Tryz.func67 Du Du Du ?_
 ·intro args pre s h hp
  unfold c0k at h
  split at h
  ·rename_i x k C
   simp only[Ia]at h
   obtain⟨⟨q,p,r,L⟩,hx,rfl,rfl⟩:=h
   obtain⟨h1,h2,h3⟩:=b1n hx hp
   exact⟨((p,r,L),k,C),⟨h1,E8,Ix⟩,⟨h2,h3⟩,rfl⟩
  ·cases h
 ·exact Bv
 ·rintro⟨⟨p,r,L⟩,k,C⟩ ⟨bc,bm⟩
  refine wlk _ ?_;(repeat' first|constructor|refine Iu fun hu=> ?_|intro h);all_goals refine Lm ?_
  all_goals(try simp only[J7,b00,b0f,b0s]at*)
  ·exact⟨⟨⟨b09 _,bc.1.1⟩,bc.1.2⟩,bc.2⟩
  iterate 2
   ·have h':¬b0w p r=0:=E1
    have e:psE k C p r=b0w p r:=Iy h'
    simp[zL,e,h']
  ·have h':¬b0w p r=0:=E1
   exact(Iy h').symm
  all_goals
   have hb:b0w p r=0:=E1
   have P:=b6u bc.2.1 hb
   have hs:=(b0r (b54 hb).1).1
   have hN:=b1b hs
   have t5:=P.il
   have qf:cnt p.W p.H=4*p.W*p.H:=Fx
   have gv:=b6s p.W p.H
  ·refine⟨Dt,Dt,c34 Du Dt Dt,Dt⟩
  refine⟨(0:Nat),⟨J5 _,fun j hj=>absurd hj (Je _)⟩,?_,?_⟩
  ·refine wlk _ ?_;(repeat' first|constructor|refine Iu fun hu=> ?_|intro h);all_goals refine Lm ?_
   all_goals first|exact A2|exact B5|skip
  ·intro i hi
   obtain⟨cw,be⟩:=hi
   replace cw:i≤(b01 p r).length:=cw
   have hx:i<(b01 p r).length→0≤((b01 p r).getD i clR.d).q:=fun h=>by
    have:=(P.im i Dt).2.2.2
    omega
   refine wlk _ ?_;(repeat' first|constructor|refine Iu fun hu=> ?_|intro h);all_goals refine Lm ?_
   all_goals(try simp only[I8,c7u _ _ (J2 i)]at*)
   all_goals(try first
    |exact An
    |exact hx Dt
    |(exfalso;simp[]at h;done)
    |(rename_i h1;exfalso;simp[hs]at h1;done)
    |(have rj:(!decide (g2g k C ((b01 p r).getD i clR.d)=0))=true:=by assumption
      have Qk:¬g2g k C ((b01 p r).getD i clR.d)=0:=by simpa using rj
      have e:psE k C p r=1:=ps_bad hb Dt Qk
      first
       |(simp[zL,e];done)
       |exact((csE_or k C ((b01 p r).getD i clR.d)).resolve_left Qk).trans e.symm))
   ·have rj:(!decide (g2g k C ((b01 p r).getD i clR.d)=0))=false:=Dx
    refine⟨i+1,⟨Dt,fun j hj=> ?_⟩,E6,?_⟩
    ·by_cases e:j<i
     ·exact be j e
     ·have:j=i:=Dt
      subst this
      simpa using rj
    ·refine wlk _ ?_;(repeat' first|constructor|refine Iu fun hu=> ?_|intro h);all_goals refine Lm ?_
     all_goals first|exact Aj|exact fun j _=>b6h b04 (fun _ _=>rfl) (fun _ _=>rfl) (fun j=>csvC k C ((b01 p r).getD j clR.d)) _ i j|skip
   ·have ei:i=(b01 p r).length:=Dt
    subst ei
    have e0:psE k C p r=0:=j0k hb fun j hj=>be j hj
    have hZ:unZ p.W p.H=b06 p.W p.H:=Iw hs
    simp only[hZ]
    refine⟨(0:Nat),J5 _,?_,?_⟩
    ·refine wlk _ ?_;(repeat' first|constructor|refine Iu fun hu=> ?_|intro h);all_goals refine Lm ?_
     all_goals first|exact A2|exact Ag|exact fun j hj=>ps_row hj|skip
    ·intro j hj
     replace hj:j≤(b06 p.W p.H).length:=hj
     have hy:j<(b06 p.W p.H).length→_:=fun h=>c6b hs (b0c (d:=unR.d) h)
     refine wlk _ ?_;(repeat' first|constructor|refine Iu fun hu=> ?_|intro h);all_goals refine Lm ?_
     all_goals(try simp only[I8,b00,b0f]at*)
     all_goals(try first
      |exact An
      |(obtain⟨q1,q2,q3,q4⟩:=hy Dt
        first
         |exact Am)
      |(have:=@psF_le p (psS k C p r) (b06 p.W p.H) j;refine⟨Dt,?_⟩;exact b46 Du Dt))
     ·have bh:j<(b06 p.W p.H).length:=Dt
      have hT:psT p (psS k C p r) ((b06 p.W p.H).getD j unR.d)=false:=by
       unfold psT
       rw[Jw (p:=(psS k C p r).getD _ b04.d=(psS k C p r).getD _ b04.d) Dx];rfl
      refine⟨j+1,Fb,Fc,?_⟩
      simp only[d99 bh hT]
      refine wlk _ ?_;(repeat' first|constructor|refine Iu fun hu=> ?_|intro h);all_goals refine Lm ?_
      all_goals first|exact Aj|skip
     ·have bh:j<(b06 p.W p.H).length:=Dt
      have hT:psT p (psS k C p r) ((b06 p.W p.H).getD j unR.d)=true:=by
       unfold psT
       rw[Jq (p:=(psS k C p r).getD _ b04.d=(psS k C p r).getD _ b04.d) Dx,Jw (p:=kdV p _ _=0) Dx];rfl
      refine⟨j+1,Fb,Fc,?_⟩
      simp only[j2j bh hT,Ig]
      refine wlk _ ?_;(repeat' first|constructor|refine Iu fun hu=> ?_|intro h);all_goals refine Lm ?_
      all_goals first|exact Aj|exact b43 (R:=unR) rfl|skip
     ·have bh:j<(b06 p.W p.H).length:=Dt
      have hT:psT p (psS k C p r) ((b06 p.W p.H).getD j unR.d)=false:=by
       unfold psT
       rw[Jq (p:=kdV p _ _=0) Dx];exact Bool.and_false _
      refine⟨j+1,Fb,Fc,?_⟩
      simp only[d99 bh hT]
      refine wlk _ ?_;(repeat' first|constructor|refine Iu fun hu=> ?_|intro h);all_goals refine Lm ?_
      all_goals first|exact Aj|skip
     all_goals
      have ej:j=(b06 p.W p.H).length:=Dt
      subst ej
      simp only[Kq,zL,Iw e0]
      first|exact A2|exact e0.symm|exact(Js ..).symm|skip
end Go.Proofs.YtdblhepcmjecgaaGreatDoor.V
namespace Go.Proofs
open Go Go.Shelf Go.RowKit Go.Lib Go.Sort
shelf_lay_g SlLaysF0.n6 Slsf 6 at Tryz 127 as Tryz.sortCrease
end Go.Proofs
namespace Go.Proofs.YtdblhepcmjecgaaGreatDoor.V
open Go Go.Sort Go.Proofs Go.Shelf
def crR:RT Cr:=⟨3,fun x=>[.int .i64 x.c,.int .u8 x.e,.int .u8 x.k],fun l=>match l with
 | [.int _ a,.int _ b,.int _ c]=>⟨a,b,c⟩
 |_=>⟨0,0,0⟩,⟨0,0,0⟩,fun _=>rfl⟩
abbrev nCrd1:FuncId:=128
def f3z:Kon
 | [.agg [.int .i64 a,.int .u8 b,.int .u8 _],.agg [.int .i64 c,.int .u8 d,.int .u8 _]]=>some (True,.int .i64 (orL [b3f a c,b3f b d]))
 |_=>none
def FCrd1:Fam:=⟨(Int×Int×Int)×Int×Int×Int,fun((a,b,k),c,d,l)=>[.agg [.int .i64 a,.int .u8 b,.int .u8 k],.agg [.int .i64 c,.int .u8 d,.int .u8 l]],fun _=>True,fun((a,b,_),c,d,_)=>.int .i64 (orL [b3f a c,b3f b d])⟩
theorem pCrd1:PS nCrd1 f3z:=by
 refine con [(j0z,g6k),(j27,f9t),(nOr,j0w)] (by simpa using⟨pCmp,pCmp8,pOrL⟩) FCrd1 (fun _ _=>none) f3z ?_ ?_ Go.Proofs.Tryz.func128 Du Du Du ?_
 ·intro args pre s h hp
  unfold f3z at h
  split at h
  ·rename_i a b k c d l
   cases h
   exact⟨((a,b,k),c,d,l),⟨E8,E8,Ix⟩,Ix,rfl⟩
  ·cases h
 ·exact Bv
 ·rintro⟨⟨a,b,k⟩,c,d,l⟩ _
  refine wlk _ ?_;(repeat' first|constructor|refine Iu fun hu=> ?_|intro h);all_goals refine Lm ?_
  all_goals(first
   |rfl
   |exact⟨fun i hi=>match i,hi with
    |0,_=>rfl
    |1,_=>rfl,Dt⟩
   |skip)
abbrev f8m:FuncId:=127
def c04(x:Cr):List Int:=[x.c,x.e]
def d0c:d20:=fun _ sz n g rest=>match rest with
 | [.clo f []]=>if f=nCrd1∧sz=3 then some (crR.is n g∧n≤100000∧(∀x∈crR.lst n g,∀y∈crR.lst n g,c04 x=c04 y→x=y),crR.row (b2d c04 (crR.lst n g)),false)else none
 |_=>none
theorem j33:ES f8m d0c:=by
 refine f5d crR Go.Proofs.Tryz.sortCrease rfl ⟨_,Go.Proofs.Tryz.func127,Du,Du⟩ (fun w=>Go.Proofs.Tryz.isAgg50 w) (fun w=>Go.Proofs.Tryz.sizeOf50 w) (fun _=>rfl) (fun x s hs=> ?_) f3z pCrd1 (enters_of Go.Proofs.Tryz.func128 Du rfl) d0c ?_
 ·simp[crR]at hs
  rcases hs with rfl|rfl|rfl<;>exact⟨_,_,rfl⟩
 ·intro T sz n g rest pre g' r h
  unfold d0c at h
  split at h
  rotate_left
  ·cases h
  rename_i f
  split at h
  rotate_left
  ·cases h
  rename_i hc
  obtain⟨rfl,rfl⟩:=hc
  cases h
  refine⟨rfl,rfl,[],c04,rfl,fun hp=>⟨hp.1,hp.2.1,fun x hx y hy=> ?_,hp.2.2,rfl⟩⟩
  refine⟨True,?_,Ix⟩
  show f3z [.agg [.int .i64 x.c,.int .u8 x.e,.int .u8 x.k],.agg [.int .i64 y.c,.int .u8 y.e,.int .u8 y.k]]=_
  simp only[f3z,c04,f5w]
end Go.Proofs.YtdblhepcmjecgaaGreatDoor.V
namespace Go.Proofs.YtdblhepcmjecgaaGreatDoor.V
open Go
def capU:SV→Option (Prop×List Bool×Option Nat)
 |.rel 1 1 f 0 0=>match f 0 with
  | [.sl 1 n g cp]=>some (f=(fun _=>[.sl 1 n g cp])∧g=b1x.row (b1x.lst n g),b1x.lst n g,cp)
  |_=>none
 |_=>none
def g2w(l:List Bool)(cp:Option Nat):SV:=.rel 1 1 (fun _=>[.sl 1 l.length (b1x.row l) cp]) 0 0
theorem j1v{s:SV}{q:Prop}{l:List Bool}{cp:Option Nat}(h:capU s=some (q,l,cp))(hq:q):s=g2w l cp:=by
 unfold capU at h
 split at h
 ·split at h
  ·cases h
   obtain⟨h1,h2⟩:=hq
   rw[h1]
   unfold g2w
   rw[RT.lst_length,←h2]
  ·cases h
 ·cases h
def capF:SV→Option (Prop×(Int×Int×Int)×Bool)
 |.rel 4 1 f 0 0=>match f 0 with
  | [.int .u8 k,.int .i64 C,.int .u8 s,.bool o]=>some (f=(fun _=>[.int .u8 k,.int .i64 C,.int .u8 s,.bool o]),(k,C,s),o)
  |_=>none
 |_=>none
def j51(x:Int×Int×Int)(o:Bool):SV:=.rel 4 1 (fun _=>[.int .u8 x.1,.int .i64 x.2.1,.int .u8 x.2.2,.bool o]) 0 0
theorem j56{s:SV}{q:Prop}{x:Int×Int×Int}{o:Bool}(h:capF s=some (q,x,o))(hq:q):s=j51 x o:=by
 unfold capF at h
 split at h
 ·split at h
  ·cases h
   rw[hq]
   rfl
  ·cases h
 ·cases h
def dkI(l:List Bool)(o:Bool)(v:Int):Int:=if l.getD v.toNat b1x.d=o then 2 else 1
abbrev nDo1:FuncId:=72
def kDo1:Kon
 | [.int .i64 v,s,t]=>match capU s,capF t with
   |some (q,l,_),some (q',_,o)=>some ((q∧q')∧0≤v∧v<l.length,.int .u8 (dkI l o v))
   |_,_=>none
 |_=>none
def FDo1:Fam:=⟨Int×(List Bool×Option Nat)×(Int×Int×Int)×Bool,fun(v,(l,cp),x,o)=>[.int .i64 v,g2w l cp,j51 x o],fun(v,(l,_),_,_)=>0≤v∧v<l.length,fun(v,(l,_),_,o)=>.int .u8 (dkI l o v)⟩
theorem pDo1:PS nDo1 kDo1:=by
 refine con [] Dv FDo1 (fun _ _=>none) kDo1 ?_ ?_ Go.Proofs.Tryz.func72 Du Du Du ?_
 ·intro args pre s h hp
  unfold kDo1 at h
  split at h
  ·rename_i v x1 x2
   split at h
   ·rename_i q l cp q' x o h1 h2
    cases h
    rw[j1v h1 hp.1.1,j56 h2 hp.1.2]
    exact⟨(v,(l,cp),x,o),⟨E3,by simp[g2w,SV.le2,SV.le1,SV.le0],by simp[j51,SV.le2,SV.le1,SV.le0],Ix⟩,hp.2,rfl⟩
   ·cases h
  ·cases h
 ·exact Bw
 ·rintro⟨v,⟨l,cp⟩,x,o⟩ hp
  replace hp:0≤v∧v<l.length:=hp
  refine wlk _ ?_;(repeat' first|constructor|refine Iu fun hu=> ?_|intro h);all_goals refine Lm ?_
  all_goals(first
   |exact hp
   |exact(Iw E1).symm
   |exact(Iy E1).symm
   |skip)
abbrev c1x:FuncId:=126
def c2f:Kon
 | [.sl 3 n f _]=>some (n≤100000∧∀i,i<n→(f i).all SV.flat0=true,.sl 3 n f none)
 | [.con (.slice none 0 0)]=>some (True,.sl 3 0 (fun _=>[]) none)
 |_=>none
def f8x:Fam:=⟨Nat×(Nat→List SV),fun(n,f)=>[.sl 3 n f none],fun(n,f)=>n≤100000∧∀i,i<n→(f i).all SV.flat0=true,fun(n,f)=>.sl 3 n f none⟩
theorem g06:PF c1x c2f:=by
 refine conF {} ⟨Dv,Dv,Dv⟩ f8x (fun _ _=>none) c2f ?_ ?_ Go.Proofs.Tryz.func126 Du Du Du ?_
 ·intro args pre s h hp
  unfold c2f at h
  split at h
  ·rename_i n f c
   cases h
   exact By
  ·cases h
   exact C9
  ·cases h
 ·exact Bu
 ·rintro⟨n,f⟩ ⟨hp,dq⟩
  refine wlk _ ?_;(repeat' first|constructor|refine Iu fun hu=> ?_|intro h);all_goals refine Lm ?_
  all_goals(first
   |exact Af
   |(intro i hi;simp;done)
   |skip)
def hVCl:HK:=fun args own=>match args,own with
 | [.sl 3 n f _],[]=>some ⟨n≤100000,.osl 0,[.row 50 3 n f none],[]⟩
 |_,_=>none
def FVCl:FamH:=⟨Nat×(Nat→List SV),fun(n,f)=>[.sl 3 n f none],fun _=>[],fun(n,_)=>n≤100000,fun _=>.osl 0,fun(n,f)=>[.row 50 3 n f none],[]⟩
theorem pVCl:HS c1x hVCl:=by
 refine c90 {G:={gx:=d0u 2 50 3}} ⟨Dv,Dv,Dv⟩ FVCl (fun _ _=>none) hVCl ?_ ?_ ?_ Go.Proofs.Tryz.func126 Du Du Du ?_
 ·intro args own r h hp
  unfold hVCl at h
  split at h
  ·rename_i n f c
   cases h
   exact Dq
  ·cases h
 ·exact Bu
 ·exact Cf
 ·rintro⟨n,f⟩ μ hp
  replace hp:n≤100000:=hp
  refine wlk _ ?_;(repeat' first|constructor|refine Iu fun hu=> ?_|intro h);all_goals refine Lm ?_
  all_goals(first
   |exact Aj
   |exact Bb
   |(intro i hi;simp;done)
   |skip)
def mkC(up:List Bool)(o:Bool)(u:Int×Int):Cr:=⟨u.1,u.2,dkI up o u.1⟩
def d5z(p:Pt)(l:List (Int×Int))(up:List Bool)(o:Bool):List Cr:=p.l++l.map (mkC up o)
def g5g(p:Pt)(l:List (Int×Int))(up:List Bool)(o:Bool):List Cr:=b2d c04 (d5z p l up o)
def g2q(p:Pt)(l:List (Int×Int))(up:List Bool)(o:Bool):Prop:=(p.l.length+l.length≤100000∧∀u∈l,0≤u.1∧u.1<up.length)∧∀x∈d5z p l up o,∀y∈d5z p l up o,c04 x=c04 y→x=y
abbrev d32:FuncId:=71
theorem f5t{p:Pt}{l:List (Int×Int)}{up:List Bool}{o:Bool}{i:Nat}(h:i<l.length):d5z p (l.take (i+1)) up o=d5z p (l.take i) up o++[mkC up o (l.getD i unR.d)]:=by
 rw[b0u (d:=unR.d) h];simp[d5z]
theorem g5x{p:Pt}{l:List (Int×Int)}{up:List Bool}{o:Bool}{i:Nat}(h:i≤l.length):(d5z p (l.take i) up o).length=p.l.length+i:=by
 simp[d5z];omega
abbrev nOvr1:FuncId:=53
def f6p:Kon
 | [.agg [.int .i64 a,.int .i64 b,.int .u8 c,x],.agg [.int .i64 d,.int .i64 e,.int .u8 f,y]]=>match b04.as x,b04.as y with
   |some u,some v=>some ((b04.isL u.1 u.2∧b04.isL v.1 v.2)∧inK .u8 c∧inK .u8 f,.int .i64 (b0v a b c d e f))
   |_,_=>none
 |_=>none
def FOvr1:Fam:=⟨Stk×Stk,fun(s,t)=>[.agg (stR.sv s),.agg (stR.sv t)],fun(s,t)=>inK .u8 s.c.q∧inK .u8 t.c.q,fun(s,t)=>.int .i64 (b0v s.c.x s.c.y s.c.q t.c.x t.c.y t.c.q)⟩
theorem pOvr1:PS nOvr1 f6p:=by
 refine con [(b33,b1t)] H2 FOvr1 (fun _ _=>none) f6p ?_ ?_ Go.Proofs.Tryz.func53 Du Du Du ?_
 ·intro args pre s h hp
  unfold f6p at h
  split at h
  ·rename_i a b c x d e f y
   split at h
   ·rename_i u v h1 h2
    cases h
    obtain⟨⟨p1,p2⟩,p3⟩:=hp
    refine⟨(⟨⟨a,b,c⟩,b04.lst u.1 u.2⟩,⟨⟨d,e,f⟩,b04.lst v.1 v.2⟩),⟨⟨Dz,Dz,Dz,b04.as_leL h1 p1,Ix⟩,⟨Dz,Dz,Dz,b04.as_leL h2 p2,Ix⟩,Ix⟩,p3,rfl⟩
   ·cases h
  ·cases h
 ·exact Bv
 ·rintro⟨s,t⟩ hp
  replace hp:inK .u8 s.c.q∧inK .u8 t.c.q:=hp
  refine wlk _ ?_;(repeat' first|constructor|refine Iu fun hu=> ?_|intro h);all_goals refine Lm ?_
  all_goals(first
   |exact hp
   |rfl
   |skip)
end Go.Proofs.YtdblhepcmjecgaaGreatDoor.V
namespace Go.Proofs.YtdblhepcmjecgaaGreatDoor.V
open Go Go.Sort Go.Proofs Go.Shelf
def encF(vs:List Value)(o sz n:Nat)(i:Fin n):List Value:=(List.range sz).map fun j=>vs.getD (o+i.1*sz+j) undef
theorem f1r{vs:List Value}{o sz n:Nat}{i:Fin n}{j:Nat}(hj:j<sz):(encF vs o sz n i)[j]! =vs.getD (o+i.1*sz+j) undef:=by
 rw[K4 _ j Ha]
 simp[encF]
theorem sortE2{β:Type}(R:RT β){ρ:Ren}{fs fc:FuncId}(L:SlLaysF0.n6 Go.Proofs.Tryz.prog ρ)(fu:ρ.f 6=fs)(hU:∃fn,Go.Proofs.Tryz.prog.funcs[fs]?=some fn∧(fn.name== "runtime.NumGoroutine")=false∧fn.body.isNone=false)
 (aE:∀w,(isAgg (ρ.t 24)).run Go.Proofs.Tryz.prog w=.ok true w) (zE:∀w,(Go.sizeOf (ρ.t 24)).run Go.Proofs.Tryz.prog w=.ok R.sz w) (hL:∀x,(R.sv x).length=R.sz) (hI:∀x,(R.sv x).all SV.pure=true)
 (kc:Kon) (pc:PS fc kc) (eg:∀args w,(callFunc fc args).run Go.Proofs.Tryz.prog w=.ok (.enter fc args) w) (e:d20)
 (he:∀T sz n g rest pre g' r,e T sz n g rest=some (pre,g',r)→sz=R.sz∧r=false∧∃caps key,rest=[.clo fc caps]∧(pre→R.isL n g∧n≤100000∧
   (∀x∈R.lst n g,∀y∈R.lst n g,∃p:Prop,kc ([.agg (R.sv x),.agg (R.sv y)]++caps)=some (p,.int .i64 (b0t (key x) (key y)))∧p)∧((R.lst n g).map key).Nodup∧g'=R.row (b2d key (R.lst n g)))):ES fs e:=by
 refine⟨hU,?_⟩
 intro A w v T sz n g c rest vals pre g' r hA hv c9 hB hD qt hp
 obtain⟨rfl,rfl,caps,key,rfl,cd⟩:=he _ _ _ _ _ _ _ _ qt
 obtain⟨gu,hn,qc,qd,rfl⟩:=cd hp
 obtain⟨fv,rfl⟩:∃fv,vals=[fv]:=by
  have:=hD.1
  match vals,this with
  | [fv],_=>exact⟨fv,rfl⟩
 have hf:=hD.2 0 _ fv rfl rfl
 cases hf with
 |clo cvs d9 n9=>
 obtain⟨a,m,rfl,f7,ff,dh,hl,b9⟩:=hB
 rcases Jx n with h0|h0
 ·subst h0
  have d6:=AnyF.slices_SortFunc_none {L with} a m (.func (.func fc) #[] cvs.toArray) w
  rw[fu]at d6
  refine d6.mono ?_
  rintro e w' ⟨rfl,rfl⟩
  refine⟨_,rfl,fun h=>E2,fun _=>rfl,⟨a,m,rfl,f7,ff,dh,fun i hi=>absurd hi Dt,?_⟩,Fr.refl _ _ _⟩
  rcases b9 with h|⟨b,o,vs,c7,rfl,hh,ho,h1,hd⟩
  ·exact .inl h
  ·exact Cw
 ·rcases b9 with h|⟨b,o,vs,c7,rfl,hh,ho,h1,hd⟩
  ·omega
  have hb:b<w.heap.size:=(J9.1 hh).1
  have b8:(R.lst n g).length=n:=RT.lst_length R n g
  have cz:∀i,i<n→(R.lst n g)[i]?=some (R.of (g i)):=fun i hi=>by simp[RT.lst,hi]
  haveI:Inhabited (Fin n):=⟨⟨0,h0⟩⟩
  let d:Array (Fin n):=(List.finRange n).toArray
  have kg:d.size=n:=by simp[d]
  have tp:∀i,i<n→(d[i]!).1=i:=fun i hi=>by
   rw[K4 d i Dt]
   simp[d]
  have c6:∀i j,i<n→j<R.sz→o+i*R.sz+j<vs.length:=fun i j hi hj=>by
   have:=b59 hi hj
   have:n*R.sz≤m*R.sz:=Jt _ f7
   omega
  let enc:=encF vs o R.sz n
  have hk:∀x,(enc x).length=R.sz:=fun x=>by simp[enc,encF]
  have cq:∀i j,i<n→j<R.sz→vs[o+i*R.sz+j]?=some ((enc d[i]!)[j]!):=by
   intro i j hi hj
   have h9:=c6 i j hi hj
   rw[Iv h9,f1r hj,tp i hi]
   simp[Iv h9]
  have qz:∀x,∀v∈enc x,v.oneCell'=true:=fun x v hv=>by
   obtain⟨j,hj,rfl⟩:=Ja.1 hv
   have h9:=c6 x.1 j x.2 Ek
   simp only[Im,Iv h9]
   exact h1 _ (Jn h9)
  have Pj:∀(x:Fin n) (w':World) (H':Nat→Prop) (μ':Mu),Keeps w w' (held A (c35 (.slice (some ⟨b,o,none⟩) n m))) H' b0a b0a→∀(j:Nat) (s:SV) (u:Value),(R.sv (R.of (g x.1)))[j]?=some s→(enc x)[j]?=some u→D w' H' μ' s u:=by
   intro x w' H' μ' kp j s u hs hu
   have hj:j<R.sz:=Gc
   have h9:=c6 x.1 j x.2 hj
   have di:vs[o+x.1*R.sz+j]?=some u:=by
    have:=f1r (vs:=vs) (o:=o) (n:=n) (i:=x) hj
    rw[K4 _ j Ha]at this
    have h2:(enc x)[j]?=some ((encF vs o R.sz n x)[j]'Ha):=Iv _
    rw[h2,this]at hu
    rw[←hu,Iv h9]
    simp[Iv h9]
   obtain⟨s0,bv,gy⟩:=(c23 (gu x.1 x.2)).2.1 j s hs
   have h3:=gy (hd x.1 j s0 u x.2 bv di)
   have hp:=J4.1 (hI (R.of (g x.1))) s (J0 hs)
   exact b1w (fun _ h=>h) ((b1w (μ':=b0a) (fun _ h=>h) h3 hp).keep kp) hp
  have hH:HoldsK enc R.sz w b o d:=by
   intro t ht
   have tr:t<n*R.sz:=by simpa[kg]using ht
   have hz:0<R.sz:=by
    rcases Jx R.sz with hz|hz
    ·rw[hz]at tr;omega
    ·exact hz
   have t1:t/R.sz<n:=Nat.div_lt_of_lt_mul G1
   have t2:=M4 t hz
   have q:=c37 (enc:=enc) (k:=R.sz) (d:=d) (i:=t/R.sz) (j:=t%R.sz) Dt t2
   have hc:=cq (t/R.sz) (t%R.sz) t1 t2
   rw[Kb,Me]at hc
   rw[Me]at q
   rw[q.2]
   refine⟨?_,?_⟩
   ·simp only[World.cell?,hh,Option.isSome_none,Ij,List.getElem?_toArray]
    exact hc
   ·simp[World.frozen?,hh]
  have tu:CmpLays Go.Proofs.Tryz.prog fc cvs.toArray enc R.sz (fun x y=>b0t (key (R.of (g x.1))) (key (R.of (g y.1)))) b o d.size w:=by
   intro q os dk Qe x y
   have bk:w.heap.size≤(sortWorldK enc R.sz w b o q dk os).heap.size:=c0w
   have kp:Keeps w (sortWorldK enc R.sz w b o q dk os) (held A (c35 (.slice (some ⟨b,o,none⟩) n m))) (held A (c35 (.slice (some ⟨b,o,none⟩) n m))) b0a b0a:=
    ⟨bk,fun i hi bb=>b3b hi (fun e=>bb (.inr ⟨0,_,rfl,e▸b1p c7⟩)),fun _ _ h=>h,fun _ _ h=>h⟩
   obtain⟨p,zc,wg⟩:=qc _ (J0 (cz x.1 x.2)) _ (J0 (cz y.1 y.2))
   have j8:DL (sortWorldK enc R.sz w b o q dk os) (held A (c35 (.slice (some ⟨b,o,none⟩) n m))) b0a [.agg (R.sv (R.of (g x.1))),.agg (R.sv (R.of (g y.1)))] [.agg (enc x).toArray,.agg (enc y).toArray]:=
    ⟨rfl,fun i s v hs hv=>by
      match i,hs,hv with
      |0,hs,hv=>
       simp at hs hv;subst hs hv
       exact .agg _ (by rw[hk,hL]) (fun j s v hs hv=>Pj x _ _ _ kp j s v hs hv)
      |1,hs,hv=>
       simp at hs hv;subst hs hv
       exact .agg _ (by rw[hk,hL]) (fun j s v hs hv=>Pj y _ _ _ kp j s v hs hv)⟩
   have P5:DL (sortWorldK enc R.sz w b o q dk os) (held A (c35 (.slice (some ⟨b,o,none⟩) n m))) b0a caps cvs:=⟨d9,fun i s v hs hv=>(n9 i s v hs hv).keep kp⟩
   have:=pc.2 (held A (c35 (.slice (some ⟨b,o,none⟩) n m))) (sortWorldK enc R.sz w b o q dk os) _ _ p _
    (fun i hi=>by
      rcases hi with hi|⟨j,z,hj,hz⟩
      ·exact Jd (hA i hi) bk
      ·unfold c35 at hj
       split at hj
       ·cases hj;exact Jd (hv i hz).1 bk
       ·cases hj)
    (fun g t hg=>⟨(c9 g t hg).1,(c9 g t hg).2.keep kp⟩) (f05 j8 P5) zc wg
   have e:(#[Value.agg (enc x).toArray,Value.agg (enc y).toArray]++cvs.toArray:Array Value)=([Value.agg (enc x).toArray,Value.agg (enc y).toArray]++cvs).toArray:=Ex
   rw[e]
   refine this.mono ?_
   rintro e w' ⟨v,rfl,w8,bg⟩
   cases w8
   exact⟨rfl,c8u bg (fun _ h=>h)⟩
  have fk:∀x y:Fin n,key (R.of (g x.1))=key (R.of (g y.1))→x=y:=by
   intro x y Qm
   have hp:=K8.1 qd
   have gx:∀z:Fin n,((R.lst n g).map key)[z.1]'(by rw[Js,b8];exact z.2)=key (R.of (g z.1)):=fun z=>by
    simp[RT.lst]
   rcases Lx x.1 y.1 with h9|he|h9
   ·exact absurd ((gx x).trans (Qm.trans (gx y).symm)) (hp _ _ _ _ h9)
   ·exact Fin.ext he
   ·exact absurd ((gx y).trans (Qm.symm.trans (gx x).symm)) (hp _ _ _ _ h9)
  have d6:=AnyQ.slices_SortFunc_total L R.sz aE zE enc hk qz (fun x y=>b0t (key (R.of (g x.1))) (key (R.of (g y.1)))) (g0u (fun x:Fin n=>key (R.of (g x.1)))) fc cvs.toArray b o m d w eg tu hH hb Dt
   (fun x y h1 h2=>fk _ _ (b5x _ _ (by
     simp only[ltOf,L1]at h1 h2
     have:=b1g (key (R.of (g x.1))) (key (R.of (g y.1)))
     omega)))
  rw[fu,kg]at d6
  refine d6.mono ?_
  rintro e w' ⟨rfl,q,os,rfl⟩
  generalize hM:(d.toList.mergeSort fun x y=> !(ltOf (fun x y:Fin n=>b0t (key (R.of (g x.1))) (key (R.of (g y.1))))) y x)=M
  have qe:M.map (fun x=>R.of (g x.1))=b2d key (R.lst n g):=by
   rw[←hM,←c7k key _ (f7x qd)]
   rw[List.map_mergeSort (s:=fun x y=>decide (b0t (key x) (key y)≤0))]
   ·congr 1
    apply List.ext_getElem
    ·simp[d,RT.lst]
    ·intro i h1 h2
     simp[d,RT.lst]
   ·intro x _ y _
    have:=b1g (key (R.of (g x.1))) (key (R.of (g y.1)))
    simp only[ltOf,←decide_not,decide_eq_decide]
    omega
  have gk:M.length=n:=by
   have:=Lc List.length qe
   rw[Js,b0p,b8]at this
   exact this
  have P6:∀i,i<n→R.of (g (M.toArray[i]!).1)=(b2d key (R.lst n g)).getD i R.d:=fun i hi=>by
   rw[←qe,K4 M.toArray i Fu]
   simp[gk,hi]
  have kp:Keeps w (sortWorldK enc R.sz w b o q M.toArray os) (held A (c35 (.slice (some ⟨b,o,none⟩) n m))) (held A (c35 (.slice (some ⟨b,o,none⟩) n m))) b0a b0a:=
   ⟨c0w,fun i hi bb=>b3b hi (fun e=>bb (.inr ⟨0,_,rfl,e▸b1p c7⟩)),fun _ _ h=>h,fun _ _ h=>h⟩
  refine⟨_,rfl,fun h=>E2,fun _=>rfl,⟨_,m,rfl,f7,ff,dh,fun i hi=>⟨hL _,hI _⟩,.inr ⟨b,o,(putCells id o (flatK enc R.sz M.toArray) vs.toArray).toList,c7,rfl,?_,?_,?_,?_⟩⟩,g2c (b1p c7)⟩
  ·rw[b9s hh]
  ·rw[Kr,b4n];simpa using ho
  ·intro v hv
   exact Dk
  ·intro i j s v hi hs hv
   have hj:j<R.sz:=Gc
   have q:=c37 (enc:=enc) (k:=R.sz) (d:=M.toArray) (i:=i) (j:=j) Fu hj
   rw[Kk,Kb,b7k q.1 (by simp;have:=c6 i j hi hj;omega),q.2]at hv
   cases hv
   have cc:(R.sv (R.of (g (M.toArray[i]!).1)))[j]?=some s:=by rw[P6 i hi];exact hs
   refine Pj _ _ _ _ kp j s _ cc ?_
   have bh:j<(enc (M.toArray[i]!)).length:=by rw[hk];exact hj
   rw[K4 _ j bh]
   exact Iv bh
end Go.Proofs.YtdblhepcmjecgaaGreatDoor.V
namespace Go.Proofs.YtdblhepcmjecgaaGreatDoor.V
open Go
def f10:HK:=fun args own=>match args,own with
 | [.osl 0],[.row T 1 n f _]=>if T=3 then some ⟨n≤100000,.osl 0,[.row 3 1 n f (some n)],[0]⟩else none
 |_,_=>none
def j34:FamH:=⟨Nat×(Nat→List SV),fun _=>[.osl 0],fun(n,f)=>[.row 3 1 n f none],fun(n,_)=>n≤100000,fun _=>.osl 0,fun(n,f)=>[.row 3 1 n f (some n)],[0]⟩
theorem j2m:HS b96 f10:=by
 refine c90 {} ⟨Dv,Dv,Dv⟩ j34 (fun _ _=>none) f10 ?_ ?_ ?_ Go.Proofs.Tryz.func84 Du Du Du ?_
 ·intro args own r h hp
  unfold f10 at h
  split at h
  ·rename_i T n f c
   split at h
   ·rename_i hT
    subst hT
    cases h
    exact⟨(n,f),⟨E3,Ix⟩,rfl,⟨⟨Eg,rfl,Ix,d1p fun _ _=>rfl⟩,Ix⟩,hp,rfl,rfl,rfl⟩
   ·cases h
  ·cases h
 ·exact Bu
 ·exact C2
 ·rintro⟨n,f⟩ μ hp
  replace hp:n≤100000:=hp
  refine wlk _ ?_;(repeat' first|constructor|refine Iu fun hu=> ?_|intro h);all_goals refine Lm ?_
  all_goals(first
   |exact Ak
   |(show some ((n:Int)-0).toNat=some n;congr 1)
   |exact B2
   |(intro i hi;congr 1;simp;done)
   |skip)
def g4y:HK:=fun args own=>match args,own with
 | [.sl 1 n f _],[]=>some ⟨n≤100000,.osl 0,[.row 3 1 n f none],[]⟩
 |_,_=>none
def FVClI:FamH:=⟨Nat×(Nat→List SV),fun(n,f)=>[.sl 1 n f none],fun _=>[],fun(n,_)=>n≤100000,fun _=>.osl 0,fun(n,f)=>[.row 3 1 n f none],[]⟩
theorem pVClI:HS b8r g4y:=by
 refine c90 {G:={gx:=d0u 2 3 1}} ⟨Dv,Dv,Dv⟩ FVClI (fun _ _=>none) g4y ?_ ?_ ?_ Go.Proofs.Tryz.func85 Du Du Du ?_
 ·intro args own r h hp
  unfold g4y at h
  split at h
  ·rename_i n f c
   cases h
   exact Dq
  ·cases h
 ·exact Bu
 ·exact Cf
 ·rintro⟨n,f⟩ μ hp
  replace hp:n≤100000:=hp
  refine wlk _ ?_;(repeat' first|constructor|refine Iu fun hu=> ?_|intro h);all_goals refine Lm ?_
  all_goals(first
   |exact Aj
   |exact Bb
   |(intro i hi;simp;done)
   |skip)
def c78:HK:=fun args own=>match args,own with
 | [.agg [.int .i64 a,.int .i64 b,.int .u8 c,.sl 1 n f _]],[]=>some ⟨n≤100000,.agg [.int .i64 a,.int .i64 b,.int .u8 c,.osl 0],[.row 3 1 n f (some n)],[]⟩
 |_,_=>none
def g3a:FamH:=⟨(Int×Int×Int)×Nat×(Nat→List SV),fun((a,b,c),n,f)=>[.agg [.int .i64 a,.int .i64 b,.int .u8 c,.sl 1 n f none]],fun _=>[],fun(_,n,_)=>n≤100000,fun((a,b,c),_,_)=>.agg [.int .i64 a,.int .i64 b,.int .u8 c,.osl 0],fun(_,n,f)=>[.row 3 1 n f (some n)],[]⟩
theorem d90:HS c32 c78:=by
 refine c90 {h:=[(b8r,g4y),(b96,f10)],gr:=fun id=>bif Nat.beq id 1 then [.orders]else [],G:={gx:=fun _=>[.sel [2,1]]}} ⟨Dv,Dv,by simpa using⟨pVClI,j2m⟩⟩ g3a (fun _ _=>none) c78 ?_ ?_ ?_ Go.Proofs.Tryz.func51 Du Du Du ?_
 ·intro args own r h hp
  unfold c78 at h
  split at h
  ·rename_i a b c n f cp
   cases h
   exact⟨((a,b,c),n,f),⟨by simp[SV.le2,SV.le1,b24,SV.le0,b3q,d0g],Ix⟩,rfl,Ix,hp,rfl,rfl,rfl⟩
  ·cases h
 ·exact Bu
 ·exact Cf
 ·rintro⟨⟨a,b,c⟩,n,f⟩ μ hp
  replace hp:n≤100000:=hp
  refine wlk _ ?_;(repeat' first|constructor|refine Iu fun hu=> ?_|intro h);all_goals refine Lm ?_
  all_goals(first
   |exact Aj
   |exact hu
   |skip)
end Go.Proofs.YtdblhepcmjecgaaGreatDoor.V
namespace Go.Proofs.YtdblhepcmjecgaaGreatDoor.V
section
variable {α : Type} (d : α) (lt : α → α → Bool)
def swp(l:List α)(i j:Nat):List α:=(l.set i (l.getD j d)).set j (l.getD i d)
def c75(a:Nat):Nat→List α→List α
 |0,l=>l
 |j+1,l=>if a<j+1∧lt (l.getD (j+1) d) (l.getD j d)=true then c75 a j (swp d l (j+1) j)else l
def c6g(a:Nat):Nat→Nat→List α→List α
 |0,_,l=>l
 |k+1,i,l=>c6g a k (i+1) (c75 d lt a i l)
def f1s(a b:Nat)(l:List α):List α:=c6g d lt a (b-(a+1)) (a+1) l
def swR(a b:Nat):Nat→Nat→List α→List α
 |0,_,l=>l
 |k+1,i,l=>swR a b k (i+1) (swp d l (a+i) (b+i))
def j4s(m:Nat):Nat→Nat→Nat→List α→List α
 |0,_,_,l=>l
 |f+1,i,j,l=>if i=j then swR d (m-i) m i 0 l else if j<i then j4s m f (i-j) j (swR d (m-i) m j 0 l)else j4s m f i (j-i) (swR d (m-i) (m+j-i) i 0 l)
def c82(a m b:Nat)(l:List α):List α:=j4s d m (b-a) (m-a) (b-m) l
def c8m(p:Nat→Bool):Nat→Nat→Nat→Nat
 |0,i,_=>i
 |f+1,i,j=>if i<j then(if p ((i+j)/2)=true then c8m p f ((i+j)/2+1) j else c8m p f i ((i+j)/2))else i
def shU:Nat→Nat→List α→List α
 |0,_,l=>l
 |n+1,k,l=>shU n (k+1) (swp d l k (k+1))
def shD:Nat→Nat→List α→List α
 |0,_,l=>l
 |n+1,k,l=>shD n (k-1) (swp d l k (k-1))
def c7y(a m b:Nat)(l:List α):Nat:=
 if(a+b)/2<m then c8m (fun c=> !lt (l.getD ((a+b)/2+m-1-c) d) (l.getD c d)) ((a+b)/2-((a+b)/2+m-b)) ((a+b)/2+m-b) ((a+b)/2)
 else c8m (fun c=> !lt (l.getD ((a+b)/2+m-1-c) d) (l.getD c d)) (m-a) a m
def c0b(a m b s:Nat)(l:List α):List α:=if s<m∧m<(a+b)/2+m-s then c82 d s m ((a+b)/2+m-s) l else l
def up1(a m b:Nat)(l:List α):Nat:=c8m (fun h=>lt (l.getD h d) (l.getD a d)) (b-m) m b
def dn1(a m:Nat)(l:List α):Nat:=c8m (fun h=> !lt (l.getD m d) (l.getD h d)) (m-a) a m
def b6z:Nat→Nat→Nat→Nat→List α→List α
 |0,_,_,_,l=>l
 |f+1,a,m,b,l=>
  if m-a=1 then shU d (up1 d lt a m b l-1-a) a l
  else if b-m=1 then shD d (m-dn1 d lt a m l) m l
  else
   if(a+b)/2<(a+b)/2+m-c7y d lt a m b l∧(a+b)/2+m-c7y d lt a m b l<b then
    b6z f ((a+b)/2) ((a+b)/2+m-c7y d lt a m b l) b (if a<c7y d lt a m b l∧c7y d lt a m b l<(a+b)/2 then b6z f a (c7y d lt a m b l) ((a+b)/2) (c0b d a m b (c7y d lt a m b l) l)else c0b d a m b (c7y d lt a m b l) l)
   else if a<c7y d lt a m b l∧c7y d lt a m b l<(a+b)/2 then b6z f a (c7y d lt a m b l) ((a+b)/2) (c0b d a m b (c7y d lt a m b l) l)else c0b d a m b (c7y d lt a m b l) l
def f96(n:Nat):Nat→Nat→List α→List α
 |0,a,l=>f1s d lt a n l
 |f+1,a,l=>if a+20≤n then f96 n f (a+20) (f1s d lt a (a+20) l)else f1s d lt a n l
def d5x(n bs:Nat):Nat→Nat→List α→List α
 |0,a,l=>if a+bs<n then b6z d lt n a (a+bs) n l else l
 |f+1,a,l=>if a+2*bs≤n then d5x n bs f (a+2*bs) (b6z d lt n a (a+bs) (a+2*bs) l)else if a+bs<n then b6z d lt n a (a+bs) n l else l
def f59(n:Nat):Nat→Nat→List α→List α
 |0,_,l=>l
 |f+1,bs,l=>if bs<n then f59 n f (2*bs) (d5x d lt n bs n 0 l)else l
def c8e(l:List α):List α:=f59 d lt l.length l.length 20 (f96 d lt l.length l.length 0 l)
structure Sub (l' l:List α):Prop where
 len:l'.length=l.length
 mem:∀x∈l',x∈l
 perm:l'.Perm l
theorem Sub.refl(l:List α):Sub l l:=⟨rfl,fun _ h=>h,.refl l⟩
theorem Sub.trans{a b c:List α}(h:Sub a b)(k:Sub b c):Sub a c:=⟨h.1.trans k.1,fun x hx=>k.2 x (h.2 x hx),h.3.trans k.3⟩
variable {d lt}
theorem g5d{l:List α}{i j:Nat}(hi:i<l.length)(hj:j<l.length):(swp d l i j).Perm l:=by
 have h:=Array.swap_perm (xs:=l.toArray) (i:=i) (j:=j) Ej Ek
 have e:(l.toArray.swap i j Ej Ek).toList=swp d l i j:=by
  simp[Array.swap,swp,hi,hj]
 have:=Array.perm_iff_toList_perm.1 h
 rw[e]at this
 simpa using this
theorem c02{l:List α}{i j:Nat}(hi:i<l.length)(hj:j<l.length):Sub (swp d l i j) l:=by
 have h:=g5d (d:=d) hi hj
 exact⟨h.length_eq,fun x hx=>h.mem_iff.1 hx,h⟩
theorem d3r{a:Nat}:∀(j:Nat) (l:List α),j<l.length→Sub (c75 d lt a j l) l
 |0,l,_=>Sub.refl l
 |j+1,l,h=>by
  unfold c75
  split
  ·have hs:=c02 (d:=d) (l:=l) (i:=j+1) (j:=j) h Dt
   exact(d3r j _ Et).trans hs
  ·exact Sub.refl l
theorem c9p{a:Nat}:∀(k i:Nat) (l:List α),i+k≤l.length→Sub (c6g d lt a k i l) l
 |0,_,l,_=>Sub.refl l
 |k+1,i,l,h=>by
  unfold c6g
  have hs:=d3r (d:=d) (lt:=lt) (a:=a) i l Dt
  exact(c9p k (i+1) _ Et).trans hs
theorem c21{a b:Nat}{l:List α}(h:b≤l.length):Sub (f1s d lt a b l) l:=by
 unfold f1s
 by_cases e:a+1≤b
 ·exact c9p _ _ _ Dt
 ·rw[show b-(a+1)=0 from Dt];exact Sub.refl l
theorem c31{a b:Nat}:∀(k i:Nat) (l:List α),a+i+k≤l.length→b+i+k≤l.length→Sub (swR d a b k i l) l
 |0,_,l,_,_=>Sub.refl l
 |k+1,i,l,h1,h2=>by
  unfold swR
  have hs:=c02 (d:=d) (l:=l) (i:=a+i) (j:=b+i) Dt Dt
  exact(c31 k (i+1) _ Et Et).trans hs
theorem d0m{m:Nat}:∀(f i j:Nat) (l:List α),i≤m→m+j≤l.length→Sub (j4s d m f i j l) l
 |0,i,j,l,_,_=>Sub.refl l
 |f+1,i,j,l,h1,h3=>by
  unfold j4s
  split
  ·exact c31 _ _ _ Dt Dt
  ·split
   ·have hs:=c31 (d:=d) (a:=m-i) (b:=m) j 0 l Dt Dt
    exact(d0m f (i-j) j _ Dt Et).trans hs
   ·have hs:=c31 (d:=d) (a:=m-i) (b:=m+j-i) i 0 l Dt Dt
    exact(d0m f i (j-i) _ Dt Et).trans hs
theorem b4q{a m b:Nat}{l:List α}(h:m≤b)(hb:b≤l.length):Sub (c82 d a m b l) l:=d0m _ _ _ _ Dt Dt
theorem c08{p:Nat→Bool}:∀(f i j:Nat),i≤j→i≤c8m p f i j∧c8m p f i j≤j
 |0,i,j,h=>⟨J2 _,h⟩
 |f+1,i,j,h=>by
  unfold c8m
  split
  ·split
   ·have:=c08 (p:=p) f ((i+j)/2+1) j Dt
    omega
   ·have:=c08 (p:=p) f i ((i+j)/2) Dt
    omega
  ·omega
theorem f5j:∀(n k:Nat) (l:List α),k+n<l.length∨n=0→Sub (shU d n k l) l
 |0,_,l,_=>Sub.refl l
 |n+1,k,l,h=>by
  unfold shU
  have hs:=c02 (d:=d) (l:=l) (i:=k) (j:=k+1) Dt Dt
  exact(f5j n (k+1) _ Et).trans hs
theorem f5r:∀(n k:Nat) (l:List α),k<l.length→Sub (shD d n k l) l
 |0,_,l,_=>Sub.refl l
 |n+1,k,l,h=>by
  unfold shD
  have hs:=c02 (d:=d) (l:=l) (i:=k) (j:=k-1) Dt Dt
  exact(f5r n (k-1) _ Et).trans hs
theorem g05{a m b:Nat}{l:List α}(h1:a<m)(h2:m<b):a≤c7y d lt a m b l∧c7y d lt a m b l≤m∧(a+b)/2+m-c7y d lt a m b l≤b∧m≤(a+b)/2+m-c7y d lt a m b l:=by
 unfold c7y
 split
 ·have:=c08 (p:=fun c=> !lt (l.getD ((a+b)/2+m-1-c) d) (l.getD c d)) ((a+b)/2-((a+b)/2+m-b)) ((a+b)/2+m-b) ((a+b)/2) Dt
  omega
 ·have:=c08 (p:=fun c=> !lt (l.getD ((a+b)/2+m-1-c) d) (l.getD c d)) (m-a) a m Dt
  omega
theorem g45{a m b s:Nat}{l:List α}(_:s≤m)(he:(a+b)/2+m-s≤l.length):Sub (c0b d a m b s l) l:=by
 unfold c0b
 split
 ·exact b4q Dt he
 ·exact Sub.refl l
theorem b1f:∀(f a m b:Nat) (l:List α),a<m→m<b→b≤l.length→Sub (b6z d lt f a m b l) l
 |0,_,_,_,l,_,_,_=>Sub.refl l
 |f+1,a,m,b,l,h1,h2,h3=>by
  unfold b6z
  have hS:=g05 (d:=d) (lt:=lt) (l:=l) h1 h2
  generalize c7y d lt a m b l=s at hS
  have hR:=g45 (d:=d) (a:=a) (b:=b) (l:=l) hS.2.1 Dt
  have hA:a<s∧s<(a+b)/2→Sub (b6z d lt f a s ((a+b)/2) (c0b d a m b s l)) l:=fun h=>(b1f f a s _ _ h.1 h.2 (by rw[hR.1];omega)).trans hR
  split
  ·have:=c08 (p:=fun h=>lt (l.getD h d) (l.getD a d)) (b-m) m b Dt
   unfold up1
   exact f5j _ _ _ Dt
  ·split
   ·exact f5r _ _ _ Dt
   ·split
    ·rename_i hc
     split
     ·rename_i hd
      have:=hA hd
      exact(b1f f _ _ b _ hc.1 hc.2 (by rw[this.1];exact h3)).trans this
     ·exact(b1f f _ _ b _ hc.1 hc.2 (by rw[hR.1];exact h3)).trans hR
    ·split
     ·rename_i hd;exact hA hd
     ·exact hR
theorem f1w{n:Nat}:∀(f a:Nat) (l:List α),n≤l.length→Sub (f96 d lt n f a l) l
 |0,a,l,h=>c21 h
 |f+1,a,l,h=>by
  unfold f96
  split
  ·have hs:=c21 (d:=d) (lt:=lt) (a:=a) (b:=a+20) (l:=l) Dt
   exact(f1w f (a+20) _ (by rw[hs.1];exact h)).trans hs
  ·exact c21 h
theorem d9p{n bs:Nat}(hb:0<bs):∀(f a:Nat) (l:List α),n≤l.length→Sub (d5x d lt n bs f a l) l
 |0,a,l,h=>by
  unfold d5x
  split
  ·exact b1f _ _ _ _ _ Dt Dt h
  ·exact Sub.refl l
 |f+1,a,l,h=>by
  unfold d5x
  split
  ·have hs:=b1f (d:=d) (lt:=lt) n a (a+bs) (a+2*bs) l Dt Dt Dt
   exact(d9p hb f _ _ (by rw[hs.1];exact h)).trans hs
  ·split
   ·exact b1f _ _ _ _ _ Dt Dt h
   ·exact Sub.refl l
theorem f0e{n:Nat}:∀(f bs:Nat) (l:List α),0<bs→n≤l.length→Sub (f59 d lt n f bs l) l
 |0,_,l,_,_=>Sub.refl l
 |f+1,bs,l,hb,h=>by
  unfold f59
  split
  ·have hs:=d9p (d:=d) (lt:=lt) hb n 0 l h
   exact(f0e f (2*bs) _ Dt (by rw[hs.1];exact h)).trans hs
  ·exact Sub.refl l
theorem c60(l:List α):Sub (c8e d lt l) l:=by
 unfold c8e
 have hs:=f1w (d:=d) (lt:=lt) l.length 0 l (J2 _)
 exact(f0e _ _ _ Dt (by rw[hs.1];exact J2 _)).trans hs
end
end Go.Proofs.YtdblhepcmjecgaaGreatDoor.V
namespace Go.Proofs.YtdblhepcmjecgaaGreatDoor.V
open Go
theorem RT.row_isL{α:Type}(R:RT α){n:Nat}{f:Nat→List SV}(hf:R.isL n f):∀i,i<n→d0g (f i) (R.row (R.lst n f) i):=by
 intro i hi
 have e:R.row (R.lst n f) i=R.sv (R.of (f i)):=Hw
 rw[e]
 exact hf i hi
theorem d70{α:Type}{d:α}{l:List α}{i j k:Nat}(hi:i<l.length)(hj:j<l.length):(swp d l i j).getD k d=if k=j then l.getD i d else if k=i then l.getD j d else l.getD k d:=by
 unfold swp
 simp only[It]
 by_cases e1:k=j
 ·subst e1;rw[Iw rfl,K9 Ek];simp
 ·rw[Iy e1,Jb (Ne.symm e1)]
  by_cases e2:k=i
  ·subst e2;rw[Iw rfl,K9 hi];simp
  ·rw[Iy e2,Jb (Ne.symm e2)]
theorem c9j{α:Type}{d:α}{l:List α}{i j:Nat}:(swp d l i j).length=l.length:=by simp[swp]
def d2x(l:List Int):Nat→List Int
 |0=>l
 |i+1=>swp 0 (d2x l i) i (l.length-1-i)
theorem b5b(l:List Int):∀i,(d2x l i).length=l.length
 |0=>rfl
 |i+1=>by simp[d2x,c9j,b5b l i]
theorem f2p(l:List Int):∀i,2*i≤l.length→∀k,k<l.length→(d2x l i).getD k 0=l.getD (if k<i∨l.length≤k+i then l.length-1-k else k) 0
 |0,_,k,hk=>by rw[Iy Dt];rfl
 |i+1,h,k,hk=>by
  have ih:=f2p l i Dt
  have hl:=b5b l i
  simp only[d2x]
  rw[d70 Dt Dt]
  by_cases e1:k=l.length-1-i
  ·rw[Iw e1,ih i Dt,Iy Dt,Iw Dt]
   congr 1;omega
  ·rw[Iy e1]
   by_cases e2:k=i
   ·rw[Iw e2,ih _ Dt,Iy Dt,Iw Dt]
    congr 1;omega
   ·rw[Iy e2,ih k hk]
    by_cases e3:k<i∨l.length≤k+i
    ·rw[Iw e3,Iw Dt]
    ·rw[Iy e3,Iy Dt]
theorem g6r(l:List Int){i:Nat}(h1:2*i≤l.length)(h2:l.length≤2*i+1):d2x l i=l.reverse:=by
 apply List.ext_getElem
 ·simp[b5b]
 ·intro k h3 h4
  have hk:k<l.length:=F5
  have:=f2p l i h1 k hk
  simp only[Im,Iv h3]at this
  rw[this,List.getElem_reverse]
  by_cases e:k<i∨l.length≤k+i
  ·rw[Iw e,Iv Dt,K6]
  ·rw[Iy e,Iv hk,K6]
   congr 1;omega
abbrev nRevI:FuncId:=102
def g6s:HK:=fun args own=>match args,own with
 | [.osl 0],[.row T 1 n f _]=>if T=3 then some ⟨b04.isL n f∧n≤100000,.tup [],[.row 3 1 (b04.lst n f).length (b04.row (b04.lst n f).reverse) none],[]⟩else none
 |_,_=>none
def FRevI:FamH:=⟨List Int,fun _=>[.osl 0],fun l=>[.row 3 1 l.length (b04.row l) none],fun l=>l.length≤100000,fun _=>.tup [],fun l=>[.row 3 1 l.length (b04.row l.reverse) none],[]⟩
def IRevI:List Int→Nat→Option Inv
 |l,1=>some {β:=Nat,ok:=fun i=>2*i≤l.length,st:=fun i=>⟨[⟨3,none,.int .i64 ((l.length:Int)-1-i)⟩,⟨2,none,.int .i64 i⟩,⟨0,none,.osl 0⟩],[.row 3 1 l.length (b04.row (d2x l i)) none]⟩,μ:=fun i=>l.length-i}
 |_,_=>none
theorem j1n{l:List Int}{i q:Nat}{x y:Int}(h:2*i+2≤l.length)(hx:x=(d2x l i).getD i 0)(hy:y=(d2x l i).getD (l.length-1-i) 0):b9m (decide (q=l.length-1-i)) [.int .i64 x] (b9m (decide (q=i)) [.int .i64 y] (b04.row (d2x l i) q))=b04.row (d2x l (i+1)) q:=by
 have hl:=b5b l i
 have hA:b04.row (d2x l i) q=[.int .i64 ((d2x l i).getD q 0)]:=rfl
 have hB:b04.row (d2x l (i+1)) q=[.int .i64 ((d2x l (i+1)).getD q 0)]:=rfl
 rw[hA,hB]
 simp only[b9m,d3p,K5,d2x]
 rw[d70 Dt Dt,hx,hy]
 by_cases e1:q=l.length-1-i
 ·simp[e1]
 ·by_cases e2:q=i
  ·subst e2;simp[e1]
  ·simp[e1,e2]
theorem ov_row(L:List Int)(i:Nat)(x:Int):over (b04.row L i) 0 [SV.int .i64 x]=[SV.int .i64 x]:=rfl
theorem ov_mix(b:Bool)(L:List Int)(i:Nat)(x y:Int):over (b9m b [SV.int .i64 x] (b04.row L i)) 0 [SV.int .i64 y]=[SV.int .i64 y]:=by
 cases b<;>rfl
theorem pRevI:HS nRevI g6s:=by
 refine c90 {} ⟨Dv,Dv,Dv⟩ FRevI IRevI g6s ?_ ?_ ?_ Go.Proofs.Tryz.func102 Du Du Du ?_
 ·intro args own r h hp
  unfold g6s at h
  split at h
  ·rename_i T n f c
   split at h
   ·rename_i hT
    subst hT
    cases h
    exact⟨b04.lst n f,⟨E3,Ix⟩,rfl,⟨⟨Eg,(RT.lst_length b04 n f).symm,Ix,RT.row_isL b04 hp.1⟩,Ix⟩,by simp only[FRevI,RT.lst_length];exact hp.2,rfl,rfl,rfl⟩
   ·cases h
  ·cases h
 ·exact Bu
 ·exact C2
 ·intro(l:List Int) μ hp
  replace hp:l.length≤100000:=hp
  refine wlk _ ?_;(repeat' first|constructor|refine Iu fun hu=> ?_|intro h);all_goals refine Lm ?_
  all_goals(try(simp only[inK];omega))
  refine⟨(0:Nat),J5 _,?_,?_⟩
  ·refine wlk _ ?_;(repeat' first|constructor|refine Iu fun hu=> ?_|intro h);all_goals refine Lm ?_
   all_goals first|exact Aq|skip
  ·intro i hi
   replace hi:2*i≤l.length:=hi
   have e1:((l.length:Int)-1-i).toNat=l.length-1-i:=Dt
   refine wlk _ ?_;(repeat' first|constructor|refine Iu fun hu=> ?_|intro h);all_goals refine Lm ?_
   all_goals(try simp only[I8,e1]at*)
   all_goals(try first
    |exact An
    |exact Au
    |(show i<l.length;omega)
    |(show l.length-1-i<l.length;omega)
    |(intro q hq;rw[g6r l hi Dt]))
   refine⟨i+1,Dt,Dt,?_⟩
   all_goals refine wlk _ ?_;(repeat' first|constructor|refine Iu fun hu=> ?_|intro h);all_goals refine Lm ?_
   all_goals(first
    |omega
    |rfl
    |(intro q _
      have hk:2*i+2≤l.length:=Dt
      rw[ov_row,ov_mix]
      exact j1n (l:=l) (i:=i) (q:=q) (x:=(d2x l i).getD i 0) (y:=(d2x l i).getD (l.length-1-i) 0) hk rfl rfl))
def b5j(s:Stk):Stk:=⟨s.c,s.l.reverse⟩
def f5f:List SV:=[.int .i64 0,.int .i64 0,.int .u8 0,.con (.slice none 0 0)]
def d3c(L:List Stk)(i q:Nat):List SV:=[.int .i64 (if q<i then(L.getD q stR.d).c.x else 0),.int .i64 (if q<i then(L.getD q stR.d).c.y else 0),.int .u8 (if q<i then(L.getD q stR.d).c.q else 0),if q<i then .sl 1 (L.getD q stR.d).l.reverse.length (b04.row (L.getD q stR.d).l.reverse) none else .con (.slice none 0 0)]
theorem g52{L:List Stk}{i q:Nat}(h:q<i):d3c L i q=stR.sv (b5j (L.getD q stR.d)):=by simp only[d3c,Iw h];rfl
theorem g4b{L:List Stk}{i q:Nat}(h:¬q<i):d3c L i q=f5f:=by simp only[d3c,Iy h];rfl
theorem j4d{L:List Stk}{i q:Nat}:b9m (decide (q=i)) (stR.sv (b5j (L.getD i stR.d))) (d3c L i q)=d3c L (i+1) q:=by
 by_cases e:q=i
 ·subst e
  rw[g52 (Nat.lt_succ_self _),g4b (Ln _),Jw rfl]
  rfl
 ·rw[Jq e]
  by_cases h:q<i
  ·rw[g52 h,g52 Dt];rfl
  ·rw[g4b h,g4b Dt];rfl
theorem rv_all{L:List Stk}{q:Nat}(h:q<L.length):d3c L L.length q=stR.row (L.map b5j) q:=by
 rw[g52 h]
 simp[RT.row,h]
abbrev d5c:FuncId:=61
def c5q:Kon
 | [x]=>(d2w x).map fun q=>(q.1,.sl 4 (q.2.map b5j).length (stR.row (q.2.map b5j)) (some (q.2.map b5j).length))
 |_=>none
def FStRev:Fam:=⟨List Stk,fun L=>[b7u L],fun L=>b2y L,fun L=>.sl 4 (L.map b5j).length (stR.row (L.map b5j)) (some (L.map b5j).length)⟩
def IStRev:List Stk→Nat→Option Inv
 |L,3=>some {β:=Nat,ok:=fun i=>i≤L.length,st:=fun i=>⟨[⟨11,none,.int .i64 i⟩,⟨10,none,.int .i64 L.length⟩,⟨9,none,b7u L⟩,⟨3,none,.osl 0⟩],[.row 71 4 L.length (d3c L i) (some L.length)]⟩,μ:=fun i=>L.length-i}
 |_,_=>none
theorem pStRev:PS d5c c5q:=by
 refine f04 {h:=[(c32,c78),(nRevI,g6s)],gr:=fun id=>bif Nat.beq id 6 then [.fz 2,.flat 0]else []} ⟨Dv,Dv,by simpa using⟨d90,pRevI⟩⟩ FStRev IStRev c5q ?_ ?_ Go.Proofs.Tryz.func61 Du Du Du ?_
 ·intro args pre s h hp
  unfold c5q at h
  split at h
  ·rename_i x
   simp only[Ia]at h
   obtain⟨⟨q,L⟩,hx,rfl,rfl⟩:=h
   obtain⟨h1,h2⟩:=b4j hx hp
   exact⟨L,⟨h1,Ix⟩,h2,rfl⟩
  ·cases h
 ·exact Bu
 ·intro(L:List Stk) hp
  replace hp:b2y L:=hp
  have hl:=hp.1
  refine wlk _ ?_;(repeat' first|constructor|refine Iu fun hu=> ?_|intro h);all_goals refine Lm ?_
  ·refine⟨Dt,Dt,?_,Dt⟩
   exact c34 Du Dt Dt
  refine⟨(0:Nat),J5 _,?_,?_⟩
  ·refine wln _ ?_;(repeat' first|constructor|refine Iu fun hu=> ?_|intro h);all_goals refine Lm ?_
   all_goals first|rfl|exact Av|(intro q _;exact .inl (by rw[g4b (Je _)];rfl))|exact Ad|skip
  ·intro i hi
   replace hi:i≤L.length:=hi
   have hx:i<L.length→(L.getD i stR.d).l.length≤100000:=fun h=>hp.2 _ Hb
   refine wln _ ?_;(repeat' first|constructor|refine Iu fun hu=> ?_|intro h);all_goals refine Lm ?_
   all_goals(try simp only[I8,RT.lst_row]at*)
   all_goals(try first
    |omega
    |exact hx Dt
    |(show i<L.length;omega)
    |(show i=i;rfl)
    |exact⟨b04.isL_row _,hx Dt⟩
    |exact A9
    |(simp;done)
    |(intro q hq;left
      have e:i=L.length:=Dt
      rw[e];exact rv_all hq))
   refine⟨i+1,Dt,Dt,?_⟩
   all_goals refine wln _ ?_;(repeat' first|constructor|refine Iu fun hu=> ?_|intro h);all_goals refine Lm ?_
   all_goals(try simp only[J7,RT.lst_row])
   all_goals first
    |omega
    |rfl
    |exact Ad
    |(intro q hq;left
      have e:=@j4d L i q
      simp only[stR,b5j,List.length_reverse]at e
      exact e)
    |skip
abbrev f69:FuncId:=83
def d1w:HK:=fun args own=>match args,own with
 | [.con (.slice none 0 0),.int .i64 n],[]=>some ⟨0<n∧n≤200000,.osl 0,[.row 71 4 0 (fun _=>[]) none],[]⟩
 |_,_=>none
def j42:FamH:=⟨Int,fun n=>[.sl 4 0 (fun _=>[]) (some 0),.int .i64 n],fun _=>[],fun n=>0<n∧n≤200000,fun _=>.osl 0,fun _=>[.row 71 4 0 (fun _=>[]) none],[]⟩
theorem j1s:HS f69 d1w:=by
 refine c90 {G:={gx:=d0u 4 71 4}} ⟨Dv,Dv,Dv⟩ j42 (fun _ _=>none) d1w ?_ ?_ ?_ Go.Proofs.Tryz.func83 Du Du Du ?_
 ·intro args own r h hp
  unfold d1w at h
  split at h
  ·rename_i n
   cases h
   exact⟨n,⟨by simp[SV.le2,SV.le1,SV.le0,b3q],E3,Ix⟩,rfl,Ix,hp,rfl,rfl,rfl⟩
  ·cases h
 ·exact Bv
 ·exact Cf
 ·intro(n:Int) μ hp
  replace hp:0<n∧n≤200000:=hp
  obtain⟨h1,h2⟩:=hp
  refine wlk _ ?_;(repeat' first|constructor|refine Iu fun hu=> ?_|intro h);all_goals refine Lm ?_
  all_goals(try simp only[Ie]at*)
  all_goals first
   |(exfalso;omega)
   |exact A4
   |omega
   |exact⟨rfl,Dt,Dt,Dt⟩
   |(refine⟨⟨Dt,Dt⟩,Dt,Dt,?_⟩;exact b46 Du Dt)
   |(intro i hi;omega)
   |skip
def d5i(x:SV):Option (Prop×List Stk):=(stR.as x).map fun q=>(stR.is q.1 q.2∧q.1≤100000∧∀s∈stR.lst q.1 q.2,s.l.length≤100000,stR.lst q.1 q.2)
theorem c4x{x:SV}{q:Prop}{L:List Stk}(h:d5i x=some (q,L))(hq:q):x.lf (b7u L)∧b2y L:=by
 unfold d5i at h
 simp only[Ia]at h
 obtain⟨⟨n,f⟩,hx,rfl,rfl⟩:=h
 refine⟨?_,Gz,hq.2.2⟩
 unfold RT.as at hx
 split at hx
 ·split at hx
  ·rename_i hz
   cases hx
   refine⟨(RT.lst_length stR _ _).symm,by rw[Iw (by exact hz)];trivial,Ix,stR.row_lst hq.1⟩
  ·cases hx
 ·cases hx
  exact⟨by simp[RT.lst],Ix⟩
 ·cases hx
theorem d7k{α:Type}(R:RT α)(A B:List α)(q:Nat):(if q<A.length then R.row A q else R.row B (q-A.length))=R.row (A++B) q:=by
 unfold RT.row
 by_cases h:q<A.length
 ·rw[Iw h];simp[J6 h]
 ·rw[Iy h];simp[Jr (Nat.le_of_not_lt h)]
abbrev f6x:FuncId:=50
def d1i:Kon
 | [.sl 1 2 g _]=>match g 0,g 1 with
   | [x],[y]=>match d5i x,d5i y with
     |some (p,A),some (q,B)=>some ((p∧q)∧0<A.length+B.length,b7u (A++B))
     |_,_=>none
   |_,_=>none
 |_=>none
def g67(A B:List Stk)(j:Nat):List SV:=bif Nat.beq j 0 then [b7u A]else [b7u B]
def j2v:Fam:=⟨List Stk×List Stk,fun(A,B)=>[.sl 1 2 (g67 A B) none],fun(A,B)=>(b2y A∧b2y B)∧0<A.length+B.length,fun(A,B)=>b7u (A++B)⟩
def f6v(A B:List Stk)(i:Nat):Int:=if i=0 then 0 else if i=1 then A.length else A.length+B.length
def f99(A B:List Stk)(i:Nat):List Stk:=if i=0 then []else if i=1 then A else A++B
def j3e:List Stk×List Stk→Nat→Option Inv
 |(A,B),3=>some {β:=Nat,ok:=fun i=>i≤2,st:=fun i=>⟨[⟨11,none,.int .i64 i⟩,⟨10,none,.int .i64 2⟩,⟨9,none,.sl 1 2 (g67 A B) none⟩,⟨3,none,.int .i64 (f6v A B i)⟩,⟨0,none,.sl 1 2 (g67 A B) none⟩],[]⟩,μ:=fun i=>2-i}
 |(A,B),11=>some {β:=Nat,ok:=fun i=>i≤2,st:=fun i=>⟨[⟨27,none,.int .i64 i⟩,⟨26,none,.int .i64 2⟩,⟨25,none,.sl 1 2 (g67 A B) none⟩,⟨6,none,.osl 0⟩],[.row 71 4 (f99 A B i).length (stR.row (f99 A B i)) none]⟩,μ:=fun i=>2-i}
 |_,_=>none
theorem j3p:PS f6x d1i:=by
 refine f04 {h:=[(f69,d1w)]} ⟨Dv,Dv,by simpa using j1s⟩ j2v j3e d1i ?_ ?_ Go.Proofs.Tryz.func50 Du Du Du ?_
 ·intro args pre s h hp
  unfold d1i at h
  split at h
  ·rename_i g c
   split at h
   ·rename_i x y h0 h1
    split at h
    ·rename_i p A q B hx hy
     cases h
     obtain⟨⟨bc,bm⟩,jb⟩:=hp
     obtain⟨a1,a2⟩:=c4x hx bc
     obtain⟨b1,b2⟩:=c4x hy bm
     refine⟨(A,B),⟨b2p ⟨rfl,Fe,Ix,fun i hi=> ?_⟩,Ix⟩,⟨⟨a2,b2⟩,jb⟩,rfl⟩
     have:i=0∨i=1:=Dt
     rcases this with rfl|rfl
     ·rw[h0];exact .inr ⟨a1,Ix⟩
     ·rw[h1];exact .inr ⟨b1,Ix⟩
    ·cases h
   ·cases h
  ·cases h
 ·exact Bu
 ·rintro⟨A,B⟩ ⟨⟨⟨hA,_⟩,hB,_⟩,h0⟩
  refine wlk _ ?_;(repeat' first|constructor|refine Iu fun hu=> ?_|intro h);all_goals refine Lm ?_
  all_goals(try simp only[Ie]at*)
  refine⟨(0:Nat),Dt,?_,?_⟩
  ·refine wln _ ?_;(repeat' first|constructor|refine Iu fun hu=> ?_|intro h);all_goals refine Lm ?_
   all_goals first|rfl|exact Ad|skip
  ·intro i hi
   replace hi:i≤2:=hi
   have h3:i=0∨i=1∨i=2:=Dt
   rcases h3 with rfl|rfl|rfl
   ·refine wln _ ?_;(repeat' first|constructor|refine Iu fun hu=> ?_|intro h);all_goals refine Lm ?_
    all_goals(try first
     |exact Az)
    refine⟨1,Dt,Dt,?_⟩
    all_goals refine wln _ ?_;(repeat' first|constructor|refine Iu fun hu=> ?_|intro h);all_goals refine Lm ?_
    all_goals first|rfl|(simp[f6v];done)|exact Ad|skip
   ·refine wln _ ?_;(repeat' first|constructor|refine Iu fun hu=> ?_|intro h);all_goals refine Lm ?_
    all_goals(try first
     |exact Az)
    refine⟨2,Dt,Dt,?_⟩
    all_goals refine wln _ ?_;(repeat' first|constructor|refine Iu fun hu=> ?_|intro h);all_goals refine Lm ?_
    all_goals first|rfl|(simp[f6v];done)|exact Ad|skip
   ·refine wln _ ?_;(repeat' first|constructor|refine Iu fun hu=> ?_|intro h);all_goals refine Lm ?_
    all_goals(try first
     |exact Az)
    refine⟨(0:Nat),Dt,?_,?_⟩
    ·refine wln _ ?_;(repeat' first|constructor|refine Iu fun hu=> ?_|intro h);all_goals refine Lm ?_
     all_goals first|rfl|exact Ad|(intro q hq;exact absurd hq (Je _))|skip
    ·intro i hi
     replace hi:i≤2:=hi
     have c0:f99 A B 0=[]:=rfl
     have c1:f99 A B 1=A:=rfl
     have c2:f99 A B 2=A++B:=rfl
     have h3:i=0∨i=1∨i=2:=Dt
     rcases h3 with rfl|rfl|rfl
     ·refine wln _ ?_;(repeat' first|constructor|refine Iu fun hu=> ?_|intro h);all_goals refine Lm ?_
      all_goals(try first
       |exact A9
       |exact⟨by simp only[c0,Lw];omega,b46 Du (by simp only[c0,Lw];omega)⟩)
      refine⟨1,Dt,Dt,?_⟩
      all_goals refine wln _ ?_;(repeat' first|constructor|refine Iu fun hu=> ?_|intro h);all_goals refine Lm ?_
      all_goals first
       |rfl
       |(simp only[c0,c1,Lw,Kf];done)
       |exact Ad
       |(intro q _;left;have e:=d7k stR [] A q;exact e)
       |skip
     ·refine wln _ ?_;(repeat' first|constructor|refine Iu fun hu=> ?_|intro h);all_goals refine Lm ?_
      all_goals(try first
       |exact A9
       |exact⟨by simp only[c1];omega,b46 Du (by simp only[c1];omega)⟩)
      refine⟨2,Dt,Dt,?_⟩
      all_goals refine wln _ ?_;(repeat' first|constructor|refine Iu fun hu=> ?_|intro h);all_goals refine Lm ?_
      all_goals first
       |rfl
       |(simp only[c1,c2,Jj];done)
       |exact Ad
       |(intro q _;left;have e:=d7k stR A B q;exact e)
       |skip
     ·refine wln _ ?_;(repeat' first|constructor|refine Iu fun hu=> ?_|intro h);all_goals refine Lm ?_
      all_goals first|rfl|exact Ad|skip
def clQ(c:Cl):List Int:=[c.x,c.y,c.q]
theorem d7n{a b:Cl}(h:clQ a=clQ b):a=b:=by
 cases a;cases b;simp[clQ]at h;simp[h]
abbrev OS:=List (Stk×Bool)
def dO:Stk×Bool:=(stR.d,false)
def kO(O:OS):List (List Int):=O.map fun o=>clQ o.1.c
def fnd(O:OS)(q:List Int):Option Nat:=(kO O).findIdx? fun k=>decide (k=q)
def j2x(O:OS)(q:List Int):Bool:=(fnd O q).isSome
def j3y(O:OS)(q:List Int):Int:=((fnd O q).getD 0:Nat)
def g2i(O:OS)(x:Stk):OS:=match fnd O (clQ x.c)with
 |some k=>O.set k (⟨x.c,(O.getD k dO).1.l++x.l⟩,false)
 |none=>O++[(x,true)]
def oF(L:List Stk)(i:Nat):OS:=(L.take i).foldl g2i []
def c00(O:OS)(j:Nat):List SV:=[.int .i64 (O.getD j dO).1.c.x,.int .i64 (O.getD j dO).1.c.y,.int .u8 (O.getD j dO).1.c.q,.sl 1 (O.getD j dO).1.l.length (b04.row (O.getD j dO).1.l) (if(O.getD j dO).2=true then some (O.getD j dO).1.l.length else none)]
def d6b(s:Stk):List Int:=[s.c.y,s.c.x,s.c.q]
def ovS(L:List Stk):List Stk:=b2d d6b ((oF L L.length).map (·.1))
def b67(L:List Stk):Prop:=0<L.length∧L.length≤100000∧(∀s∈L,inK .u8 s.c.q∧s.l≠[]∧s.l.length≤100000)∧
 ∀i k,i<L.length→fnd (oF L i) (clQ (L.getD i stR.d).c)=some k→((oF L i).getD k dO).2=true∧((oF L i).getD k dO).1.l.length+(L.getD i stR.d).l.length≤100000
theorem b7e{O:OS}{q:List Int}{k:Nat}(h:fnd O q=some k):k<O.length∧clQ (O.getD k dO).1.c=q:=by
 unfold fnd at h
 rw[K0]at h
 obtain⟨hl,h1,_⟩:=h
 have jt:k<O.length:=by simpa[kO]using hl
 refine⟨jt,?_⟩
 simp only[Jz]at h1
 rw[←h1]
 simp[kO,jt]
theorem g5f{O:OS}{q:List Int}(h:fnd O q=none):q∉kO O:=by
 unfold fnd at h
 rw[Kh]at h
 intro hm
 have:=h q hm
 simp at this
theorem g8s{O:OS}{k:Nat}{y:Stk×Bool}(h:k<O.length→clQ y.1.c=clQ (O.getD k dO).1.c):kO (O.set k y)=kO O:=by
 unfold kO
 rw[List.map_set]
 apply List.ext_getElem
 ·simp
 ·intro i h1 h2
  have hi:i<O.length:=by simpa using h2
  by_cases e:k=i
  ·subst e
   rw[List.getElem_set_self,List.getElem_map,h hi]
   simp[hi]
  ·rw[List.getElem_set_ne e]
theorem g1y{O:OS}{y:Stk×Bool}:kO (O++[y])=kO O++[clQ y.1.c]:=by simp[kO]
theorem b8k{O:OS}{x:Stk}{k:Nat}(h:fnd O (clQ x.c)=some k):g2i O x=O.set k (⟨x.c,(O.getD k dO).1.l++x.l⟩,false):=by unfold g2i;rw[h]
theorem b61{O:OS}{x:Stk}(h:fnd O (clQ x.c)=none):g2i O x=O++[(x,true)]:=by unfold g2i;rw[h]
theorem f84{O:OS}{x:Stk}{k:Nat}(h:fnd O (clQ x.c)=some k)(q:List Int):fnd (g2i O x) q=fnd O q:=by
 rw[b8k h]
 unfold fnd
 rw[g8s (fun _=>(b7e h).2.symm)]
theorem f1n{O:OS}{x:Stk}(h:fnd O (clQ x.c)=none)(q:List Int):fnd (g2i O x) q=if q=clQ x.c then some O.length else fnd O q:=by
 rw[b61 h]
 have hl:(kO O).length=O.length:=by simp[kO]
 by_cases e:q=clQ x.c
 ·subst e
  rw[Iw rfl]
  unfold fnd at h⊢
  rw[g1y,List.findIdx?_append,h]
  simp[hl]
 ·rw[Iy e]
  unfold fnd
  rw[g1y,List.findIdx?_append]
  simp[Ne.symm e]
theorem c0h{L:List Stk}{i:Nat}(h:i<L.length):oF L (i+1)=g2i (oF L i) (L.getD i stR.d):=by
 unfold oF
 rw[Kn,Iv h,List.foldl_append]
 simp[h]
theorem b8z{L:List Stk}:∀i,i≤L.length→(oF L i).length≤i∧(kO (oF L i)).Nodup∧(∀o∈oF L i,(∀P:Cl→Prop,(∀s∈L,P s.c)→P o.1.c))∧(0<i→0<(oF L i).length)
 |0,_=>by simp[oF,kO]
 |i+1,h=>by
  obtain⟨h1,h2,h3,h4⟩:=b8z (L:=L) i Dt
  rw[c0h Dt]
  have hm:L.getD i stR.d∈L:=by
   rw[It,Iv Dt,K6]
   exact Jn _
  cases hf:fnd (oF L i) (clQ (L.getD i stR.d).c)with
  |some k=>
   have hk:=b7e hf
   rw[b8k hf]
   refine⟨E5,by rw[g8s (fun _=>hk.2.symm)];exact h2,fun o ho P hP=> ?_,fun _=>by rw[Lj];omega⟩
   rcases Lb ho with ho|rfl
   ·exact h3 o ho P hP
   ·exact hP (L.getD i stR.d) hm
  |none=>
   rw[b61 hf]
   refine⟨E5,?_,fun o ho P hP=> ?_,fun _=>Dv⟩
   ·rw[g1y,List.nodup_append]
    refine⟨h2,Dv,fun a ha b hb=> ?_⟩
    simp only[Jk]at hb
    subst hb
    intro e
    exact g5f hf (e▸ha)
   ·rcases Jf.1 ho with ho|ho
    ·exact h3 o ho P hP
    ·simp only[Jk]at ho
     subst ho
     exact hP (L.getD i stR.d) hm
theorem d2m{L:List Stk}(hp:b67 L):∀i,i≤L.length→∀o∈oF L i,o.1.l.length≤100000
 |0,_=>by simp[oF]
 |i+1,h=>by
  intro o ho
  rw[c0h Dt]at ho
  have hm:L.getD i stR.d∈L:=by
   rw[It,Iv Dt,K6]
   exact Jn _
  cases hf:fnd (oF L i) (clQ (L.getD i stR.d).c)with
  |some k=>
   rw[b8k hf]at ho
   rcases Lb ho with ho|rfl
   ·exact d2m hp i Dt o ho
   ·have:=(hp.2.2.2 i k Dt hf).2
    simpa using this
  |none=>
   rw[b61 hf]at ho
   rcases Jf.1 ho with ho|ho
   ·exact d2m hp i Dt o ho
   ·simp only[Jk]at ho
    subst ho
    exact(hp.2.2.1 _ hm).2.2
theorem oF_key{L:List Stk}{i:Nat}(h:i≤L.length):(((oF L i).map (·.1)).map d6b).Nodup:=by
 have h2:=(b8z i h).2.1
 unfold kO at h2
 rw[M6]
 unfold List.Nodup at h2⊢
 rw[L9]at h2⊢
 refine h2.imp fun bb e=>bb ?_
 simp only[Function.comp,d6b,Ip]at e
 simp[clQ,e]
theorem g1c{L:List Stk}:(ovS L).length=(oF L L.length).length:=by simp[ovS,b0p]
theorem j1k{L:List Stk}(hp:b67 L):∀s∈ovS L,s.l.length≤100000:=by
 intro s hs
 unfold ovS at hs
 rw[b83,Ja]at hs
 obtain⟨o,ho,rfl⟩:=hs
 exact d2m hp _ (J2 _) o ho
end Go.Proofs.YtdblhepcmjecgaaGreatDoor.V
namespace Go.Proofs
open Go Go.Shelf Go.RowKit Go.Lib Go.Sort
shelf_lay_g SlLaysF0.n6 Slsf 6 at Tryz 52 as Tryz.sortStack
end Go.Proofs
namespace Go.Proofs.YtdblhepcmjecgaaGreatDoor.V
open Go Go.Sort Go.Proofs Go.Shelf
abbrev f6f:FuncId:=52
def d2d:d20:=fun _ sz n g rest=>match rest with
 | [.clo f []]=>if sz=4∧f=nOvr1 then some (stR.isL n g∧n≤100000∧(∀s∈stR.lst n g,inK .u8 s.c.q)∧((stR.lst n g).map d6b).Nodup,stR.row (b2d d6b (stR.lst n g)),false)else none
 |_=>none
theorem g5w(X Y Q U V R:Int):b0v X Y Q U V R=b0t [Y,X,Q] [V,U,R]:=by
 unfold b0v g3s b0t b0t b0t b0t b3f
 repeat' split
 all_goals(try omega)
theorem j1m:ES f6f d2d:=by
 refine sortE2 stR Go.Proofs.Tryz.sortStack rfl ⟨_,Go.Proofs.Tryz.func52,Du,Du⟩ (fun w=>Go.Proofs.Tryz.isAgg71 w) (fun w=>Go.Proofs.Tryz.sizeOf71 w) (fun _=>rfl) (fun _=>rfl) f6p pOvr1 (enters_of Go.Proofs.Tryz.func53 Du rfl) d2d ?_
 intro T sz n g rest pre g' r h
 unfold d2d at h
 split at h
 rotate_left
 ·cases h
 rename_i f
 split at h
 rotate_left
 ·cases h
 rename_i hc
 obtain⟨rfl,rfl⟩:=hc
 cases h
 refine⟨rfl,rfl,[],d6b,rfl,fun hp=>⟨hp.1,hp.2.1,fun x hx y hy=> ?_,hp.2.2.2,rfl⟩⟩
 refine⟨(b04.isL x.l.length (b04.row x.l)∧b04.isL y.l.length (b04.row y.l))∧inK .u8 x.c.q∧inK .u8 y.c.q,?_,⟨b04.isL_row _,b04.isL_row _⟩,hp.2.2.1 x hx,hp.2.2.1 y hy⟩
 have e:f6p ([.agg (stR.sv x),.agg (stR.sv y)]++[])=some ((b04.isL x.l.length (b04.row x.l)∧b04.isL y.l.length (b04.row y.l))∧inK .u8 x.c.q∧inK .u8 y.c.q,.int .i64 (b0v x.c.x x.c.y x.c.q y.c.x y.c.y y.c.q)):=rfl
 rw[e,g5w]
 rfl
end Go.Proofs.YtdblhepcmjecgaaGreatDoor.V
namespace Go.Proofs.YtdblhepcmjecgaaGreatDoor.V
open Go
theorem f2t{x:SV}{q:Prop}{L:List Stk}(h:d5i x=some (q,L))(hq:q):x.le2 (b7u L):=by
 unfold d5i at h
 simp only[Ia]at h
 obtain⟨⟨n,f⟩,hx,rfl,rfl⟩:=h
 exact b2p (stR.as_le hx hq.1)
theorem ov_of(O:OS)(j:Nat):stR.of (c00 O j)=(O.getD j dO).1:=by
 have:b04.lst (O.getD j dO).1.l.length (b04.row (O.getD j dO).1.l)=(O.getD j dO).1.l:=RT.lst_row _ _
 show stOf (c00 O j)=_
 unfold c00
 have h:b04.as (.sl 1 (O.getD j dO).1.l.length (b04.row (O.getD j dO).1.l) (if(O.getD j dO).2=true then some (O.getD j dO).1.l.length else none))=some ((O.getD j dO).1.l.length,b04.row (O.getD j dO).1.l):=rfl
 simp only[stOf,h,this]
theorem g9c(O:OS):stR.lst O.length (c00 O)=O.map (·.1):=by
 apply List.ext_getElem
 ·simp[RT.lst]
 ·intro i h1 h2
  have hi:i<O.length:=by simpa using h2
  simp[RT.lst,ov_of,hi]
theorem ov_isL(O:OS):stR.isL O.length (c00 O):=by
 intro i _
 rw[ov_of]
 exact .inr ⟨by simp[SV.lf],by simp[SV.lf],by simp[SV.lf],⟨rfl,Fe,Ix,fun _ _=>rfl⟩,Ix⟩
theorem ov_set{O:OS}{k q:Nat}{xc:Cl}{l1 l2:List Int}(hk:k<O.length)(hl:l1=(O.getD k dO).1.l)(hc:(O.getD k dO).1.c=xc):
 d0g (b9m (decide (q=k)) [.int .i64 (O.getD k dO).1.c.x,.int .i64 (O.getD k dO).1.c.y,.int .u8 (O.getD k dO).1.c.q,.sl 1 (l1.length+l2.length) (fun j=>if j<l1.length then b04.row l1 j else b04.row l2 (j-l1.length)) none] (c00 O q)) (c00 (O.set k (⟨xc,l1++l2⟩,false)) q):=by
 by_cases e:q=k
 ·subst e
  rw[Jw rfl]
  have hg:(O.set q (⟨xc,l1++l2⟩,false)).getD q dO=(⟨xc,l1++l2⟩,false):=by simp[hk]
  have hR:c00 (O.set q (⟨xc,l1++l2⟩,false)) q=[.int .i64 xc.x,.int .i64 xc.y,.int .u8 xc.q,.sl 1 (l1++l2).length (b04.row (l1++l2)) none]:=by unfold c00;rw[hg];rfl
  rw[hR,hc]
  refine .inr ⟨rfl,rfl,rfl,⟨Jj.symm,Fe,Ix,fun j _=> ?_⟩,Ix⟩
  exact d7k b04 l1 l2 j
 ·rw[Jq e]
  left
  have hg:(O.set k (⟨xc,l1++l2⟩,false)).getD q dO=O.getD q dO:=by simp[Jb (Ne.symm e)]
  unfold c00
  rw[hg]
  rfl
theorem ov_app{O:OS}{x:Stk}{j:Nat}(hj:j<O.length+1):d0g (if j<O.length then c00 O j else(List.map (fun x:Nat×List SV=>x.snd) [(0,[.int .i64 x.c.x,.int .i64 x.c.y,.int .u8 x.c.q,.sl 1 x.l.length (b04.row x.l) (some x.l.length)])].reverse).getD (j-O.length) []) (c00 (O++[(x,true)]) j):=by
 left
 by_cases e:j<O.length
 ·rw[Iw e]
  unfold c00
  simp[J6 e]
 ·have:j=O.length:=Dt
  subst this
  rw[Iy e,Lv]
  unfold c00
  simp[]
theorem g4f{O:OS}{x:Stk}(h:fnd O (clQ x.c)=none)(q:List Int):b3e (j2x O) (clQ x.c) q=j2x (g2i O x) q:=by
 unfold b3e j2x
 rw[f1n h]
 by_cases e:q=clQ x.c
 ·rw[Iw e,Jw e];rfl
 ·rw[Iy e,Jq e];rfl
theorem j1w{S:List Stk}{i q:Nat}{c:Option Nat}:d0g (b9m (decide (q=i)) [.int .i64 (S.getD i stR.d).c.x,.int .i64 (S.getD i stR.d).c.y,.int .u8 (S.getD i stR.d).c.q,.sl 1 (S.getD i stR.d).l.length (b04.row (S.getD i stR.d).l) c] (stR.row S q)) (stR.row S q):=by
 by_cases e:q=i
 ·subst e
  rw[Jw rfl]
  right
  exact⟨rfl,rfl,rfl,⟨rfl,Fe,by cases c<;>trivial,fun _ _=>rfl⟩,Ix⟩
 ·rw[Jq e]
  left;rfl
abbrev f4k:FuncId:=27
def d4s:Kon
 | [x,y]=>match d5i x,d5i y with
   |some (p,A),some (q,B)=>some ((p∧q)∧b67 (A++B),.sl 4 (ovS (A++B)).length (stR.row (ovS (A++B))) (some (ovS (A++B)).length))
   |_,_=>none
 |_=>none
def FOver:Fam:=⟨List Stk×List Stk,fun(A,B)=>[b7u A,b7u B],fun(A,B)=>(b2y A∧b2y B)∧b67 (A++B),fun(A,B)=>.sl 4 (ovS (A++B)).length (stR.row (ovS (A++B))) (some (ovS (A++B)).length)⟩
def ovMap(O:OS):Blk:=.map (.ints [.i64,.i64,.u8]) false (j2x O) (fun q=>[.int .i64 (j3y O q)])
def IOver:List Stk×List Stk→Nat→Option Inv
 |(A,B),4=>some {β:=Nat,ok:=fun i=>i≤(A++B).length,st:=fun i=>⟨[⟨18,none,.int .i64 i⟩,⟨17,none,.int .i64 (A++B).length⟩,⟨16,none,b7u (A++B)⟩,⟨6,none,.osl 2⟩,⟨5,none,.omp 0⟩],[ovMap (oF (A++B) i),.dead,.row 71 4 (oF (A++B) i).length (c00 (oF (A++B) i)) none]⟩,μ:=fun i=>(A++B).length-i,nl:=[.slot 6 71 4]}
 |(A,B),15=>some {β:=Nat,ok:=fun i=>i≤(ovS (A++B)).length,st:=fun i=>⟨[⟨61,none,.int .i64 i⟩,⟨60,none,.int .i64 (ovS (A++B)).length⟩,⟨6,none,.osl 2⟩],[.dead,.dead,.row 71 4 (ovS (A++B)).length (stR.row (ovS (A++B))) none]⟩,μ:=fun i=>(ovS (A++B)).length-i}
 |_,_=>none
theorem pOver:PS f4k d4s:=by
 refine f04 {l:=[(f6x,d1i),(c32,c7s),(c76,b74),(c2r,b6t)],x:=[(f6f,d2d)],fz:=fun d=>Nat.beq d 16||Nat.beq d 74,gr:=fun id=>bif Nat.beq id 9 then [.fz 4,.flat 2]else []} ⟨by simpa using⟨j3p,f77,d7m,c9a⟩,by simpa using j1m,Dv⟩ FOver IOver d4s ?_ ?_ Go.Proofs.Tryz.func27 Du Du Du ?_
 ·intro args pre s h hp
  unfold d4s at h
  split at h
  ·rename_i x y
   split at h
   ·rename_i p A q B hx hy
    cases h
    obtain⟨⟨bc,bm⟩,jb⟩:=hp
    exact⟨(A,B),⟨f2t hx bc,f2t hy bm,Ix⟩,⟨⟨(c4x hx bc).2,(c4x hy bm).2⟩,jb⟩,rfl⟩
   ·cases h
  ·cases h
 ·exact Bv
 ·rintro⟨A,B⟩ ⟨⟨hA,hB⟩,hP⟩
  have hP':=hP
  obtain⟨h0,hn,hL,hV⟩:=hP'
  refine wlk _ ?_;(repeat' first|constructor|refine Iu fun hu=> ?_|intro h);all_goals refine Lm ?_
  ·refine⟨⟨⟨stR.is_row _,hA.1,fun s hs=>hA.2 s (by rwa[RT.lst_row]at hs)⟩,stR.is_row _,hB.1,fun s hs=>hB.2 s (by rwa[RT.lst_row]at hs)⟩,?_⟩
   rw[RT.lst_row,RT.lst_row,←Jj]
   exact h0
  simp only[RT.lst_row]
  generalize Qn:A++B=L at*
  refine⟨(0:Nat),J5 _,?_,?_⟩
  ·refine wln _ ?_;(repeat' first|constructor|refine Iu fun hu=> ?_|intro h);all_goals refine Lm ?_
   all_goals first|rfl|exact Bn|exact Ad|(intro q hq;exact absurd hq (Je _))|(intro q hq;cases hq)|skip
  ·intro i hi
   replace hi:i≤L.length:=hi
   have hF:=(b8z (L:=L) i hi).1
   rcases M5 i L.length with h9|qj
   ·have hx:L.getD i stR.d∈L:=by rw[It,Iv h9,K6];exact Jn h9
    have bb:(L.getD i stR.d).l.length≠0:=fun e=>(hL _ hx).2.1 (Kd e)
    have bj:(L.getD i stR.d).l.length≤100000:=(hL _ hx).2.2
    cases hf:fnd (oF L i) (clQ (L.getD i stR.d).c)with
    |some k=>
     have hh:j2x (oF L i) [(L.getD i stR.d).c.x,(L.getD i stR.d).c.y,(L.getD i stR.d).c.q]=true:=by show (fnd (oF L i) (clQ (L.getD i stR.d).c)).isSome=true;rw[hf];rfl
     have be:j3y (oF L i) [(L.getD i stR.d).c.x,(L.getD i stR.d).c.y,(L.getD i stR.d).c.q]=k:=by show (((fnd (oF L i) (clQ (L.getD i stR.d).c)).getD 0:Nat):Int)=k;rw[hf];rfl
     obtain⟨hk,zc⟩:=b7e hf
     have hc:=d7n zc
     obtain⟨np,jf⟩:=hV i k h9 hf
     all_goals refine wln _ ?_;(repeat' first|constructor|refine Iu fun hu=> ?_|intro h);all_goals refine Lm ?_
     all_goals(try simp only[I8,hh,be]at*)
     all_goals(try first
      |exact B6
      |(exfalso;omega)
      |omega
      |exact A9
      |(show k<(oF L i).length;exact hk)
      |(intro hq;cases hq)
      |(refine⟨by rw[Iw np],.inr Dt,Dt,?_⟩;exact b46 Du Dt))
     ·refine⟨i+1,Dt,Dt,?_⟩
      simp only[c0h h9]
      refine wln _ ?_;(repeat' first|constructor|refine Iu fun hu=> ?_|intro h);all_goals refine Lm ?_
      all_goals first
       |rfl
       |omega
       |(intro q;unfold j2x;rw[f84 hf])
       |(intro q _;unfold j3y;rw[f84 hf])
       |(rw[b8k hf,Lj])
       |(intro q _;rw[b8k hf];exact ov_set hk rfl hc)
       |exact Ad
       |skip
    |none=>
     have hh:j2x (oF L i) [(L.getD i stR.d).c.x,(L.getD i stR.d).c.y,(L.getD i stR.d).c.q]=false:=by show (fnd (oF L i) (clQ (L.getD i stR.d).c)).isSome=false;rw[hf];rfl
     have be:j3y (oF L i) [(L.getD i stR.d).c.x,(L.getD i stR.d).c.y,(L.getD i stR.d).c.q]=0:=by show (((fnd (oF L i) (clQ (L.getD i stR.d).c)).getD 0:Nat):Int)=0;rw[hf];rfl
     all_goals refine wln _ ?_;(repeat' first|constructor|refine Iu fun hu=> ?_|intro h);all_goals refine Lm ?_
     all_goals(try simp only[I8,hh,be]at*)
     all_goals(try first
      |exact B6
      |(exfalso;omega)
      |omega
      |exact A9
      |exact⟨b04.isL_row _,bj⟩
      |(intro _;kernel_rfl)
      |exact Aa)
     ·refine⟨i+1,Dt,Dt,?_⟩
      simp only[c0h h9]
      refine wln _ ?_;(repeat' first|constructor|refine Iu fun hu=> ?_|intro h);all_goals refine Lm ?_
      all_goals first
       |rfl
       |omega
       |(rw[b61 hf];simp;done)
       |exact g4f hf
       |(intro q _
         show b9m (decide (q=clQ (L.getD i stR.d).c)) [SV.int .i64 ((oF L i).length:Nat)] [SV.int .i64 (j3y (oF L i) q)]=[SV.int .i64 (j3y (g2i (oF L i) (L.getD i stR.d)) q)]
         unfold j3y
         rw[f1n hf]
         by_cases e:q=clQ (L.getD i stR.d).c
         ·rw[Iw e,Jw e];rfl
         ·rw[Iy e,Jq e];rfl)
       |(simp only[RT.lst_row];intro q hq;rw[b61 hf];exact ov_app hq)
       |exact Ad
       |skip
   ·have e:i=L.length:=Dt
    subst e
    refine wln _ ?_;(repeat' first|constructor|refine Iu fun hu=> ?_|intro h);all_goals refine Lm ?_
    all_goals(try simp only[I8]at*)
    all_goals(try(exfalso;omega))
    ·have Qp:=b8z (L:=L) L.length (J2 _)
     rw[g9c]
     refine⟨ov_isL _,Dt,fun s hs=> ?_,oF_key (J2 _)⟩
     obtain⟨o,ho,rfl⟩:=Ja.1 hs
     exact Qp.2.2.1 o ho (fun c=>inK .u8 c.q) (fun s hs=>(hL s hs).1)
    ·simp only[Qn,g9c]
     have Qp:=(b8z (L:=L) L.length (J2 _)).1
     have hSl:=@g1c L
     have hSm:=j1k hP
     have hSe:b2d d6b ((oF L L.length).map (·.1))=ovS L:=rfl
     rw[hSe,←hSl]
     generalize jx:ovS L=S at*
     have Qq:ovS (A++B)=S:=by rw[Qn];exact jx
     refine⟨(0:Nat),J5 _,?_,?_⟩
     ·refine wln _ ?_;(repeat' first|constructor|refine Iu fun hu=> ?_|intro h);all_goals refine Lm ?_
      all_goals first|rfl|exact Ad|skip
     ·intro i hi
      replace hi:i≤S.length:=hi
      have hx:i<S.length→(S.getD i stR.d).l.length≤100000:=fun h=>hSm _ Hb
      refine wln _ ?_;(repeat' first|constructor|refine Iu fun hu=> ?_|intro h);all_goals refine Lm ?_
      all_goals(try simp only[I8,RT.lst_row]at*)
      all_goals(try first
       |omega
       |exact A9
       |(show i<S.length;omega)
       |exact⟨b04.isL_row _,hx Dt⟩
       |exact Ad
       |(rw[Qq];done)
       |(rw[Qq];exact fun _ _=>.inl rfl))
      refine⟨i+1,Dt,Dt,?_⟩
      all_goals refine wln _ ?_;(repeat' first|constructor|refine Iu fun hu=> ?_|intro h);all_goals refine Lm ?_
      all_goals(try simp only[J7,RT.lst_row])
      all_goals first
       |rfl
       |exact B7
       |(intro q _;exact j1w)
       |skip
end Go.Proofs.YtdblhepcmjecgaaGreatDoor.V
namespace Go.Proofs
open Go Go.Shelf Go.RowKit Go.Lib Go.Sort
open Go.Proofs.YtdblhepcmjecgaaGreatDoor.V
structure CmpLay (P:Program) (ρ:Ren):Prop where
 mixed:P.follows .mixedOrders=true
 f43:Bears P (ρ.f 43) (SlBodyN.n43 ρ)
 t0:P.underlying (ρ.t 0)=some (TypeDesc.tuple #[])
 a0:∀w,(isAgg (ρ.t 0)).run P w=.ok false w
 z0:∀w,(Go.sizeOf (ρ.t 0)).run P w=.ok 1 w
 v0:∀w,(zeroValue (ρ.t 0)).run P w=.ok (Value.tuple #[]) w
 t3:P.underlying (ρ.t 3)=some (TypeDesc.int IntKind.i64)
 a3:∀w,(isAgg (ρ.t 3)).run P w=.ok false w
 z3:∀w,(Go.sizeOf (ρ.t 3)).run P w=.ok 1 w
 v3:∀w,(zeroValue (ρ.t 3)).run P w=.ok (Value.int IntKind.i64 0) w
 t4:P.underlying (ρ.t 4)=some (TypeDesc.bool)
 a4:∀w,(isAgg (ρ.t 4)).run P w=.ok false w
 z4:∀w,(Go.sizeOf (ρ.t 4)).run P w=.ok 1 w
 v4:∀w,(zeroValue (ρ.t 4)).run P w=.ok (Value.bool false) w
 t22:P.underlying (ρ.t 22)=some (TypeDesc.slice (ρ.t 23))
 a22:∀w,(isAgg (ρ.t 22)).run P w=.ok false w
 z22:∀w,(Go.sizeOf (ρ.t 22)).run P w=.ok 1 w
 v22:∀w,(zeroValue (ρ.t 22)).run P w=.ok (Value.slice none 0 0) w
variable {P : Program} {ρ : Ren} {α : Type} [Inhabited α] [DecidableEq α]
theorem f3w(w:World)(t e ty:TypeId)(z:Value)(ht:P.underlying t=some (.slice e))(hv:∀w,(zeroValue e).run P w=.ok z w)(h1:∀v∈z.cells.toList,v.oneCell'=true)(b o n c:Nat)(hn:0<n)
 (hc:∀j,j<z.cells.size*n→(w.cell? ⟨b,o+j,none⟩).isSome=true) (hf:∀j,j<z.cells.size*n→w.frozen? ⟨b,o+j,none⟩=false):
 (Builtin.clear_ #[t] ty #[.slice (some ⟨b,o,none⟩) n c]).run P w=.ok (.tuple #[]) (w.setCells b o (Builtin.zeroCells z.cells n).toList)∧(Builtin.zeroCells z.cells n).toList.length=z.cells.size*n∧∀v∈(Builtin.zeroCells z.cells n).toList,v.oneCell'=true:=by
 have hl:(Builtin.zeroCells z.cells n).toList.length=z.cells.size*n:=by
  simp[Builtin.zeroCells,L4]
 have hm:∀v∈(Builtin.zeroCells z.cells n).toList,v.oneCell'=true:=by
  intro v dm
  simp only[Builtin.zeroCells,M1,Ja]at dm
  obtain⟨i,hi,rfl⟩:=dm
  have hs:0<z.cells.size:=by
   rcases Jx z.cells.size with h|h
   ·simp[h]at hi
   ·exact h
  rw[K4 z.cells _ (M4 _ hs)]
  exact h1 _ (Array.getElem_mem_toList _)
 refine⟨?_,hl,hm⟩
 have bw:=run_storeCells_cells (P:=P) b o (Builtin.zeroCells z.cells n).toList 0 w (by rw[hl];simpa using hc) (by rw[hl];simpa using hf) hm
 simp only[Kz]at bw
 obtain⟨m,rfl⟩:∃m,n=m+1:=⟨n-1,Dt⟩
 simp[Builtin.clear_,Jm ht,hv,bw]
omit [DecidableEq α]in
theorem d8g(enc:α→List Value)(k:Nat)(t6:0<k)(hk:∀x,(enc x).length=k)(d:Array α)(i:Nat)(hi:i<d.size)(u:α):setMany (flatK enc k d) (i*k) (enc u)=flatK enc k (d.setIfInBounds i u):=by
 have hb:i*k+k≤d.size*k:=I1
 refine ext_get! Dv (fun t ht=> ?_)
 rw[size_setMany,size_flatK]at ht
 rw[get_setMany _ _ _ _ (by rw[size_flatK];exact ht),get_flatK enc k (d.setIfInBounds i u) t Ew,hk]
 have hq:=blk_iff k i t t6
 by_cases h:i*k≤t∧t<i*k+k
 ·have e:=hq.1 h
  rw[Iw h,e,getElem!_set_same d i u hi]
  have:t%k=t-i*k:=by rw[←e];have:=Nat.div_add_mod t k;rw[L4]at this;omega
  rw[this]
 ·have e:t/k≠i:=fun e=>h (hq.2 e)
  rw[Iy h,get_flatK _ _ _ _ ht,getElem!_set_other d i (t/k) u e]
omit [DecidableEq α]in
theorem g2y(enc:α→List Value)(k:Nat)(t6:0<k)(hk:∀x,(enc x).length=k)(w:World)(q blk off:Nat)(d:Array α)(i:Nat)(hi:i<d.size)(u:α):
 (putRowK enc k (Sort.ahead w q) blk off d).drew.setCells blk (off+i*k) (enc u)=putRowK enc k (Sort.ahead w (q+1)) blk off (d.setIfInBounds i u):=by
 have hb:i*k+k≤d.size*k:=I1
 show (putRow id (Sort.ahead w (q+1)) blk off (flatK enc k d)).setCells blk (off+i*k) (enc u)=_
 rw[setCells_putRow _ _ _ _ _ _ (by rw[hk,size_flatK];exact hb),d8g enc k t6 hk d i hi u]
 rfl
theorem g55(L:CmpLay P ρ)(k:Nat)(t6:0<k)(aE:∀w,(isAgg (ρ.t 23)).run P w=.ok true w)(zE:∀w,(Go.sizeOf (ρ.t 23)).run P w=.ok k w)(enc:α→List Value)(hk:∀x,(enc x).length=k)(h1:∀x,∀v∈enc x,v.oneCell'=true)
 (je:EqlAt P (ρ.t 23) (fun x=>.agg (enc x).toArray) (fun x y=>decide (x=y))) (bb:NeqAt P (ρ.t 23) (fun x=>.agg (enc x).toArray) (fun x y=>decide (x=y)))
 (z:Value) (hz:∀w,(zeroValue (ρ.t 23)).run P w=.ok z w) (N9:z.cells.size=k) (qw:∀v∈z.cells.toList,v.oneCell'=true)
 (blk off cap:Nat) (d:Array α) (w:World) (hH:HoldsK enc k w blk off d) (bk:d.size≤1000000) (dh:d.size≤cap):
 Calls P (ρ.f 43) #[.slice (some ⟨blk,off,none⟩) d.size cap] w fun e w'=>e=.returned (.slice (some ⟨blk,off,none⟩) (compactUpTo d d.size).length cap)∧
  ∃q dk vs,w'=putRow id (Sort.ahead w q) blk off (setMany (flatK enc k dk) ((compactUpTo d d.size).length*k) vs)∧dk.size=d.size∧(compactUpTo d d.size).length≤d.size∧(compactUpTo d d.size).length*k+vs.length≤d.size*k∧(∀v∈vs,v.oneCell'=true)∧
   ∀j,j<(compactUpTo d d.size).length→(compactUpTo d d.size)[j]?=some dk[j]!:=by
 have mixed:=L.mixed;have t0:=L.t0;have a0:=L.a0;have z0:=L.z0;have v0:=L.v0;have t3:=L.t3;have a3:=L.a3;have z3:=L.z3;have v3:=L.v3;have t4:=L.t4;have a4:=L.a4;have z4:=L.z4;have v4:=L.v4;have t22:=L.t22;have a22:=L.a22;have z22:=L.z22;have v22:=L.v22
 have zm:∀(x y:α) (w:World),Sem.run P (binOp .eql (ρ.t 23) (.agg (enc x).toArray) (.agg (enc y).toArray)) w=.ok (.bool (decide (x=y))) w:=je.1
 have zn:∀(x y:α) (w:World),Sem.run P (binOp .neq (ρ.t 23) (.agg (enc x).toArray) (.agg (enc y).toArray)) w=.ok (.bool (!decide (x=y))) w:=bb.1
 have tx:∀(op:BinOp) (a b:Operand) (x y:α) (w:World),Sem.run P (eqGuard op (ρ.t 23) a b (.agg (enc x).toArray) (.agg (enc y).toArray)) w=.ok () w:=bb.2
 have same:∀q,(∀j,j<d.size→keeps d j=true)→(compactUpTo d d.size).length=d.size∧∃dk vs,w.drewN q=putRow id (Sort.ahead w q) blk off (setMany (flatK enc k dk) ((compactUpTo d d.size).length*k) vs)∧dk.size=d.size∧(compactUpTo d d.size).length≤d.size∧(compactUpTo d d.size).length*k+vs.length≤d.size*k∧(∀v∈vs,v.oneCell'=true)∧
  ∀j,j<(compactUpTo d d.size).length→(compactUpTo d d.size)[j]?=some dk[j]!:=by
  intro q bt
  have e:compactUpTo d d.size=d.toList:=by rw[compactUpTo_all d _ bt,range_map_get]
  rw[e]
  refine⟨Dv,d,[],?_,rfl,Dv,Dv,Dv,fun j hj=> ?_⟩
  ·simp only[setMany]
   exact(putRowK_self enc k (Sort.ahead w q) blk off d (holdsK_ahead enc k w q blk off d hH)).symm
  ·have bh:j<d.size:=Ek
   rw[Kk,La bh,K4 d j bh]
 have HS:Aside (∀q,(∀j,j<d.size→keeps d j=true)→(compactUpTo d d.size).length=d.size∧∃dk vs,w.drewN q=putRow id (Sort.ahead w q) blk off (setMany (flatK enc k dk) ((compactUpTo d d.size).length*k) vs)∧dk.size=d.size∧(compactUpTo d d.size).length≤d.size∧(compactUpTo d d.size).length*k+vs.length≤d.size*k∧(∀v∈vs,v.oneCell'=true)∧
  ∀j,j<(compactUpTo d d.size).length→(compactUpTo d d.size)[j]?=some dk[j]!):=same
 clear same
 have bnd:∀x,x<d.size→x*k+k≤d.size*k:=fun x hx=>by
  have:=Jt k (show x+1≤d.size from hx);rwa[Kv,Nat.one_mul]at this
 by_cases h2:d.size<2
 ·have HH:Aside (HoldsK enc k w blk off d):=hH
  clear hH
  obtain⟨_,_,FG⟩:=L.f43
  go_enter FG,SlBodyN.n43_ntmps ρ
  go_wp2
  go_ret
  obtain⟨e1,e2⟩:=HS.out 0 (fun j hj=>keeps_lt_one d j Dt)
  exact⟨by rw[e1];rfl,0,e2⟩
 ·obtain⟨_,_,FG⟩:=L.f43
  go_enter FG,SlBodyN.n43_ntmps ρ
  go_wp2
  go_loopg [3] d.size (fun g s3 wr=>∃kx q:Nat,1≤kx∧kx≤d.size∧d.size-kx≤g∧s3=.int .i64 kx∧wr=w.drewN q∧∀j,j<kx→keeps d j=true)
  case atStart=>exact⟨1,0,J2 _,Dt,Dt,rfl,rfl,keeps_lt_one d⟩
  case round=>
   obtain⟨kx,q,m7,mq,hg,rfl,qi,bt⟩:=hrel
   by_cases h9:kx<d.size
   ·have Pk:HoldsK enc k wr.drew blk off d:=by rw[qi];exact holdsK_ahead enc k w (q+1) blk off d hH
    have W1:Aside (wr=w.drewN q):=qi
    clear qi
    have li:Sem.run P (loadCellsFrom ⟨blk,off+kx*k,none⟩ 0 k #[]) wr.drew=.ok (enc d[kx]!).toArray wr.drew:=run_loadCellsFrom_list P _ _ _ k (hk _) (HoldsK.cells Pk hk h9)
    have lj:Sem.run P (loadCellsFrom ⟨blk,off+(kx-1)*k,none⟩ 0 k #[]) wr.drew=.ok (enc d[kx-1]!).toArray wr.drew:=run_loadCellsFrom_list P _ _ _ k (hk _) (HoldsK.cells Pk hk Dt)
    obtain⟨m,hm⟩:∃m,kx-1=m:=⟨_,rfl⟩
    rw[hm]at lj
    have A:Aside (∀j,j<kx→keeps d j=true):=bt
    have HH:Aside (HoldsK enc k w blk off d):=hH
    have BB:Aside (∀x,x<d.size→x*k+k≤d.size*k):=bnd
    have HKK:Hid (∀x,(enc x).length=k):=hk
    have H11:Hid (∀x,∀v∈enc x,v.oneCell'=true):=h1
    clear bt hH Pk bnd hk h1
    obtain⟨x,hx⟩:∃x,d[kx]! =x:=⟨_,rfl⟩
    obtain⟨y,hy⟩:∃y,d[m]! =y:=⟨_,rfl⟩
    have B:Aside (d[kx]! =x∧d[kx-1]! =y):=⟨hx,by rw[hm];exact hy⟩
    rw[hx]at li
    rw[hy]at lj
    obtain⟨ci,vz⟩:∃c,c=enc x:=⟨_,rfl⟩
    obtain⟨cj,w3⟩:∃c,c=enc y:=⟨_,rfl⟩
    have Pm:ci.length=k:=by rw[vz];exact HKK.out _
    have Qr:cj.length=k:=by rw[w3];exact HKK.out _
    have rv:∀w,Sem.run P (binOp .eql (ρ.t 23) (.agg ci.toArray) (.agg cj.toArray)) w=.ok (.bool (decide (x=y))) w:=by rw[vz,w3];exact zm x y
    have Qs:∀a b w,Sem.run P (eqGuard .eql (ρ.t 23) a b (.agg ci.toArray) (.agg cj.toArray)) w=.ok () w:=by rw[vz,w3];exact fun a b w=>tx _ a b x y w
    rw[←vz]at li
    rw[←w3]at lj
    have CI:Hid (ci=enc x∧cj=enc y):=⟨vz,w3⟩
    have HE:Hid (∀(x y:α) (w:World),Sem.run P (binOp .neq (ρ.t 23) (.agg (enc x).toArray) (.agg (enc y).toArray)) w=.ok (.bool (!decide (x=y))) w):=zn
    have HG:Hid (∀(op:BinOp) (a b:Operand) (x y:α) (w:World),Sem.run P (eqGuard op (ρ.t 23) a b (.agg (enc x).toArray) (.agg (enc y).toArray)) w=.ok () w):=tx
    clear vz w3 hx hy zm zn tx je bb
    by_cases my:x=y
    ·have HD:Aside (x=y):=my
     rw[Jw my]at rv
     clear my
     go_wp2_with fail
     go_big_region_o
     all_goals go_wp2
     clear li lj rv Qs Pm Qr
     go_loopg [3,5] d.size (fun g s3 s5 wr2=>∃(kk k2 q2:Nat) (dk:Array α),s3=.int .i64 kk∧s5=.int .i64 k2∧1≤k2∧kx+k2≤d.size∧d.size-(kx+k2)≤g∧wr2=putRowK enc k (Sort.ahead w q2) blk off dk∧CompInv d (kx+k2) kk dk)
     case atStart=>exact⟨kx,1,q+1,d,rfl,rfl,J2 _,Dt,Dt,by rw[W1.out];exact(putRowK_self enc k (Sort.ahead w (q+1)) blk off d (holdsK_ahead enc k w (q+1) blk off d HH.out)).symm,CompInv.start A.out (keeps_neg Dt (by rw[B.out.1,B.out.2,HD.out]))⟩
     case round=>
      obtain⟨kk,k2,q2,dk,rfl,rfl,df,bj,hg2,qi,hI⟩:=hrel
      have ry:=hI.lt
      have kg:=hI.size
      by_cases mw:kx+k2<d.size
      ·have nf:HoldsK enc k wr.drew blk off dk:=by rw[qi];exact holdsK_putRowK enc k _ blk off d dk (holdsK_ahead enc k w (q2+1) blk off d HH.out) kg
       obtain⟨m2,nh⟩:∃m2,k2-1=m2:=⟨_,rfl⟩
       have li:Sem.run P (loadCellsFrom ⟨blk,off+kx*k+k2*k,none⟩ 0 k #[]) wr.drew=.ok (enc dk[kx+k2]!).toArray wr.drew:=by
        have:=run_loadCellsFrom_list P _ _ _ k (HKK.out _) (HoldsK.cells nf HKK.out (i:=kx+k2) Dt)
        rwa[Kv,←Kb]at this
       have lj:Sem.run P (loadCellsFrom ⟨blk,off+kx*k+m2*k,none⟩ 0 k #[]) wr.drew=.ok (enc dk[kx+m2]!).toArray wr.drew:=by
        have:=run_loadCellsFrom_list P _ _ _ k (HKK.out _) (HoldsK.cells nf HKK.out (i:=kx+m2) Dt)
        rwa[Kv,←Kb]at this
       rw[hI.high (kx+k2) Dt]at li
       rw[hI.high (kx+m2) Dt]at lj
       obtain⟨u,hu⟩:∃x,d[kx+k2]! =x:=⟨_,rfl⟩
       obtain⟨v,hv⟩:∃y,d[kx+m2]! =y:=⟨_,rfl⟩
       rw[hu]at li
       rw[hv]at lj
       have C:Aside (d[kx+k2]! =u∧d[kx+k2-1]! =v):=⟨hu,by rw[show kx+k2-1=kx+m2 from Dt];exact hv⟩
       obtain⟨cu,tz⟩:∃c,c=enc u:=⟨_,rfl⟩
       obtain⟨cv,pu⟩:∃c,c=enc v:=⟨_,rfl⟩
       have Pm:cu.length=k:=by rw[tz];exact HKK.out _
       have Qr:cv.length=k:=by rw[pu];exact HKK.out _
       have rv:∀w,Sem.run P (binOp .neq (ρ.t 23) (.agg cu.toArray) (.agg cv.toArray)) w=.ok (.bool (!decide (u=v))) w:=by rw[tz,pu];exact HE.out u v
       have Qs:∀a b w,Sem.run P (eqGuard .neq (ρ.t 23) a b (.agg cu.toArray) (.agg cv.toArray)) w=.ok () w:=by rw[tz,pu];exact fun a b w=>HG.out _ a b u v w
       have st:Sem.run P (storeCells ⟨blk,off+kk*k,none⟩ cu 0) wr.drew=.ok () (wr.drew.setCells blk (off+kk*k) cu):=stores_of_holds P nf (kk*k) _ (by rw[Pm,size_flatK,kg];exact BB.out kk Dt) (by rw[tz];exact H11.out u)
       rw[←tz]at li
       rw[←pu]at lj
       have CU:Hid (cu=enc u):=tz
       have W2:Aside (wr=putRowK enc k (Sort.ahead w q2) blk off dk):=qi
       have I2:Aside (CompInv d (kx+k2) kk dk):=hI
       clear tz pu hu hv qi hI nf
       by_cases w4:u=v
       ·have HD2:Aside (u=v):=w4
        rw[Jw w4]at rv
        clear w4 st
        go_wp2_with fail
        go_big_region_o
        all_goals go_wp2
        go_roundg (d.size-(kx+(k2+1)))
        case measure=>omega
        case rel=>exact⟨kk,k2+1,q2+1,dk,rfl,by go_num,Dt,Dt,J2 _,by rw[W2.out];rfl,I2.out.skip (keeps_neg Dt (by rw[C.out.1,C.out.2,HD2.out]))⟩
       ·have HD2:Aside (¬u=v):=w4
        rw[Jq w4]at rv
        clear w4
        go_wp2_with fail
        go_big_region_o
        all_goals go_wp2
        go_roundg (d.size-(kx+(k2+1)))
        case measure=>omega
        case rel=>
         refine⟨kk+1,k2+1,q2+1,dk.setIfInBounds kk u,by go_num,by go_num,Dt,Dt,J2 _,?_,?_⟩
         ·rw[CU.out,W2.out]
          exact g2y enc k t6 HKK.out w q2 blk off dk kk Dt u
         ·have:=I2.out.keep mw (keeps_pos (by rw[C.out.1,C.out.2];exact HD2.out))
          rwa[C.out.1]at this
      ·have hend:kx+k2=d.size:=Dt
       have nf:HoldsK enc k wr blk off dk:=by rw[qi];exact holdsK_putRowK enc k _ blk off d dk (holdsK_ahead enc k w q2 blk off d HH.out) kg
       have cq:∀j,j<z.cells.size*(d.size-kk)→kk*k+j<(flatK enc k dk).size:=fun j hj=>by
        rw[size_flatK,kg]
        rw[N9,Nat.mul_sub,L4 k,L4 k]at hj
        have:=BB.out kk Dt
        omega
       have d9:=fun ty=>f3w (P:=P) wr (ρ.t 22) (ρ.t 23) ty z t22 hz qw blk (off+kk*k) (d.size-kk) (cap-kk) Dt
        (fun j hj=>by rw[Kb,(nf (kk*k+j) (cq j hj)).1];rfl) (fun j hj=>by rw[Kb];exact(nf (kk*k+j) (cq j hj)).2)
       obtain⟨zs,jk⟩:∃zs,(Builtin.zeroCells z.cells (d.size-kk)).toList=zs:=⟨_,rfl⟩
       rw[jk]at d9
       have vw:=(d9 0).2
       have hcl':∀ty,_:=fun ty=>(d9 ty).1
       have Z:Aside (zs.length=z.cells.size*(d.size-kk)∧∀v∈zs,v.oneCell'=true):=vw
       have W2:Aside (wr=putRowK enc k (Sort.ahead w q2) blk off dk):=qi
       have I2:Aside (CompInv d (kx+k2) kk dk):=hI
       clear d9 vw nf hI qi cq jk
       go_wp2
       go_ret
       have hI:=I2.out
       rw[hend]at hI
       have nw:=Z.out.1
       have hb:=BB.out kk Dt
       rw[N9,Nat.mul_sub,L4 k,L4 k]at nw
       refine⟨by rw[hI.len];rfl,q2,dk,zs,?_,kg,by rw[hI.len];omega,by rw[hI.len];omega,Z.out.2,fun j hj=>hI.low j (by rw[hI.len]at hj;exact hj)⟩
       rw[hI.len,W2.out]
       exact setCells_putRow _ _ _ zs (kk*k) (flatK enc k dk) (by rw[size_flatK,kg];omega)
    ·have HD:Aside (¬x=y):=my
     rw[Jq my]at rv
     clear my
     go_wp2_with fail
     go_big_region_o
     all_goals go_wp2
     go_roundg (d.size-(kx+1))
     case measure=>omega
     case rel=>
      refine⟨kx+1,q+1,Dt,Dt,J2 _,by go_num,by rw[W1.out];rfl,fun j hj=> ?_⟩
      by_cases e:j=kx
      ·subst e
       exact keeps_pos (by rw[B.out.1,B.out.2];exact HD.out)
      ·exact A.out j Dt
   ·have:kx=d.size:=Dt
    subst this
    subst qi
    have HH:Aside (HoldsK enc k w blk off d):=hH
    clear hH
    go_wp2
    go_ret
    obtain⟨e1,e2⟩:=HS.out q bt
    exact⟨by rw[e1];rfl,q,e2⟩
theorem c85(L:CmpLay P ρ)(a:Option Addr)(cap:Nat)(w:World):
 Calls P (ρ.f 43) #[.slice a 0 cap] w fun e w'=>e=.returned (.slice a 0 cap)∧w'=w:=by
 have mixed:=L.mixed;have t0:=L.t0;have a0:=L.a0;have z0:=L.z0;have v0:=L.v0;have t3:=L.t3;have a3:=L.a3;have z3:=L.z3;have v3:=L.v3;have t4:=L.t4;have a4:=L.a4;have z4:=L.z4;have v4:=L.v4;have t22:=L.t22;have a22:=L.a22;have z22:=L.z22;have v22:=L.v22
 obtain⟨_,_,FG⟩:=L.f43
 go_enter FG,SlBodyN.n43_ntmps ρ
 go_wp2
 go_ret
 exact C3
end Go.Proofs
namespace Go.Proofs.YtdblhepcmjecgaaGreatDoor.V
open Go Go.Sort Go.Proofs Go.Shelf Go.Lib
def b7s{β:Type}[DecidableEq β](p:β):List β→List β
 | []=>[]
 |x::r=>if x=p then b7s p r else x::b7s x r
def b4r{β:Type}[DecidableEq β]:List β→List β
 | []=>[]
 |x::r=>x::b7s x r
section
variable {β : Type} [DecidableEq β]
theorem c2n:∀(p:β) (l:List β) (x:β),b7s p (l++[x])=b7s p l++if x=l.getLast?.getD p then []else [x]
 |p,[],x=>by
  simp only[List.nil_append,b7s]
  rfl
 |p,y::r,x=>by
  have g:(y::r).getLast?.getD p=r.getLast?.getD y:=by cases r with
   |nil=>rfl
   |cons z q=>simp[List.getLast?_eq_some_getLast]
  simp only[L2,b7s,g]
  by_cases e:y=p
  ·subst e;rw[Iw rfl,Iw rfl];exact c2n y r x
  ·rw[Iy e,Iy e,c2n y r x,L2]
theorem c5p:∀(p:β) (l:List β),(b7s p l).length≤l.length∧∀x∈b7s p l,x∈l
 |p,[]=>by simp[b7s]
 |p,y::r=>by
  simp only[b7s]
  split
  ·have:=c5p p r
   exact⟨Hd,fun x hx=>Ju _ (this.2 x hx)⟩
  ·have:=c5p y r
   refine⟨Hd,fun x hx=> ?_⟩
   rcases J8.1 hx with rfl|hx
   ·exact Kp ..
   ·exact Ju _ (this.2 x hx)
theorem f1t:∀(l:List β),(b4r l).length≤l.length∧∀x∈b4r l,x∈l
 | []=>by simp[b4r]
 |y::r=>by
  have:=c5p y r
  refine⟨by simp only[b4r,K3];omega,fun x hx=> ?_⟩
  rcases J8.1 hx with rfl|hx
  ·exact Kp ..
  ·exact Ju _ (this.2 x hx)
theorem f1q[Inhabited β](d:Array β):∀m,m≤d.size→compactUpTo d m=b4r (d.toList.take m)
 |0,_=>by simp[compactUpTo,b4r]
 |m+1,h=>by
  have hm:m<d.size:=Dt
  have e1:d[m]! =d.toList[m]'(by simpa using hm):=by rw[K4 d m hm];rfl
  have e2:d.toList.take (m+1)=d.toList.take m++[d[m]!]:=by rw[Kn,Iv (by simpa using hm),e1];rfl
  rw[compactUpTo_succ,f1q d m Dt,e2]
  cases m with
  |zero=>simp[b4r,b7s,keeps]
  |succ m=>
   have ju:m<d.size:=Dt
   have e3:d.toList.take (m+1)=d.toList.take m++[d[m]!]:=by
    rw[Kn,Iv (by simpa using ju),K4 d m ju];rfl
   have bb:d.toList.take (m+1)≠[]:=by rw[e3];simp
   have hl:(d.toList.take (m+1)).getLast?=some d[m]!:=by rw[e3];simp
   generalize d.toList.take (m+1)=q at*
   cases q with
   |nil=>exact absurd rfl bb
   |cons a r=>
    have zf:r.getLast?.getD a=d[m]!:=by
     cases r with
     |nil=>simpa using hl
     |cons b s=>simp[List.getLast?_cons_cons]at hl;rw[hl];rfl
    simp only[b4r,L2,c2n,zf]
    congr 1
    congr 1
    by_cases e:d[m+1]! =d[m]!
    ·rw[keeps_neg Dt Er,Iw e];rfl
    ·rw[keeps_pos Er,Iy e];rfl
end
theorem f33{w:World}{b o q:Nat}{F:Array Value}{i:Nat}(bb:i≠b):(Sort.putRow id (Sort.ahead w q) b o F).heap[i]?=w.heap[i]?:=by
 show (w.heap.modify b _)[i]?=_
 rw[Kx,Iy (Ne.symm bb)]
theorem g1d{w:World}{b o q:Nat}{F:Array Value}{c:Array Value}{T:TypeId}{z:Nat×Nat}(h:w.heap[b]?=some (.cells c T z)):(Sort.putRow id (Sort.ahead w q) b o F).heap[b]?=some (.cells (putCells id o F c) T z):=by
 show (w.heap.modify b _)[b]?=_
 rw[Kx,Iw rfl,h]
 rfl
theorem compH{β:Type}[DecidableEq β](R:RT β){ρ:Ren}{fs:FuncId}(L:CmpLay Go.Proofs.Tryz.prog ρ)(fu:ρ.f 43=fs)(hU:∃fn,Go.Proofs.Tryz.prog.funcs[fs]?=some fn∧(fn.name== "runtime.NumGoroutine")=false∧fn.body.isNone=false)(bk:0<R.sz)
 (aE:∀w,(isAgg (ρ.t 23)).run Go.Proofs.Tryz.prog w=.ok true w) (zE:∀w,(Go.sizeOf (ρ.t 23)).run Go.Proofs.Tryz.prog w=.ok R.sz w) (hL:∀x,(R.sv x).length=R.sz) (hI:∀x,∀s∈R.sv x,∃k n,s=.int k n)
 (je:EqlAt Go.Proofs.Tryz.prog (ρ.t 23) (fun x=>.agg ((R.sv x).map svV).toArray) (fun x y=>decide (x=y))) (bb:NeqAt Go.Proofs.Tryz.prog (ρ.t 23) (fun x=>.agg ((R.sv x).map svV).toArray) (fun x y=>decide (x=y)))
 (z:Value) (hz:∀w,(zeroValue (ρ.t 23)).run Go.Proofs.Tryz.prog w=.ok z w) (N9:z.cells.size=R.sz) (qw:∀v∈z.cells.toList,v.oneCell'=true) (h:HK)
 (hh:∀args own r,h args own=some r→∃T n f c,args=[.osl 0]∧own=[.row T R.sz n f c]∧(r.pre→R.is n f∧n≤100000)∧r.res=.osl 0∧r.own=[.row T R.sz (b4r (R.lst n f)).length (R.row (b4r (R.lst n f))) none]∧r.chg=[0]):HS fs h:=by
 refine⟨hU,?_⟩
 intro A w args vals own μ r hA c9 hO d3 hD hr hp
 obtain⟨T,n,f,c,rfl,rfl,cd,h1,h2,h3⟩:=hh _ _ _ hr
 obtain⟨gu,hn⟩:=cd hp
 rw[h1,h2,h3]
 obtain⟨v,rfl⟩:∃v,vals=[v]:=by
  have:=hD.1
  match vals,this with
  | [v],_=>exact⟨v,rfl⟩
 have hv:=hD.2 0 _ v rfl rfl
 cases hv with
 |osl hμ=>
 obtain⟨bl,e0,hb⟩:=hO.blk 0 _ hμ
 cases e0
 obtain⟨a,m,e1,f7,ff,dh,hl,b9⟩:=hb
 cases e1
 rename_i m a
 have bu:∀k,1≤k→μ k=none:=fun k hk=>d3 k hk
 have b8:(R.lst n f).length=n:=RT.lst_length R n f
 have build:∀(w':World) (nn:Nat),nn=(b4r (R.lst n f)).length→nn≤m→(∀i,i<w.heap.size→¬b7t μ i→w'.heap[i]?=w.heap[i]?)→Fr w.heap.size (b7t μ) w w'→
  (m=0∨∃b o vs,0<m∧a=some ⟨b,o,none⟩∧w'.heap[b]?=some (.cells (List.toArray vs) T (0,0))∧o+m*R.sz≤vs.length∧(∀v∈vs,v.oneCell'=true)∧
    ∀(i j:Nat) (s:SV) (v:Value),i<nn→(R.row (b4r (R.lst n f)) i)[j]?=some s→vs[o+i*R.sz+j]?=some v→∀H μ,D w' H μ s v)→
  ∃v μ',Ending.returned (.slice a nn m)=.returned v∧Own w.heap.size (b7t μ) A w' μ' [.row T R.sz (b4r (R.lst n f)).length (R.row (b4r (R.lst n f))) none]∧(∀k,1≤k→μ' k=none)∧D w' (held A μ') μ' (.osl 0) v∧
   (∀k x,k<1→[0].contains k=false→μ k=some x→μ' k=some x)∧Fr w.heap.size (b7t μ) w w':=by
  intro w' nn Nt bj cx bg d7
  subst Nt
  refine⟨_,μ.set 0 (.slice a (b4r (R.lst n f)).length m),rfl,⟨fun k x hx=> ?_,fun k k' x x' b hk cm hx d4=> ?_,fun k x b hk hx=> ?_,fun b hb=>Jd (hO.bnd b hb) bg.size⟩,fun k hk=> ?_,.osl Ec,fun k x hk hc _=> ?_,bg⟩
  ·unfold Mu.set at hx
   split at hx
   ·rename_i e
    subst e
    cases hx
    refine⟨_,rfl,a,m,rfl,bj,ff,.inl rfl,fun i hi=>⟨hL _,?_⟩,?_⟩
    ·rw[J4]
     intro s hs
     obtain⟨k,q,rfl⟩:=hI _ s hs
     rfl
    ·rcases d7 with h|⟨b,o,vs,q1,q2,q3,q4,q5,q6⟩
     ·exact .inl h
     ·exact .inr ⟨b,o,vs,q1,q2,q3,q4,q5,fun i j s v hi hs hv=>q6 i j s v hi hs hv _ _⟩
   ·rename_i e
    rw[bu k Dt]at hx
    cases hx
  ·have z:∀k x,Mu.set μ 0 (.slice a (b4r (R.lst n f)).length m) k=some x→k=0:=fun k x h=>by
    unfold Mu.set at h
    split at h
    ·assumption
    ·rename_i e
     rw[bu k Dt]at h
     cases h
   rw[z k x hk,z k' x' cm]
  ·unfold Mu.set at hk
   split at hk
   ·cases hk
    have d4:Has (.slice a n m) b:=by
     rw[b5d]at hx⊢
     cases m with
     |zero=>rw[b4z]at hx;cases hx
     |succ m=>
      cases a with
      |none=>cases hx
      |some a=>exact hx
    obtain⟨r1,r2,_⟩:=hO.rng 0 _ b hμ d4
    exact⟨Jd r1 bg.size,r2,.inr ⟨0,_,hμ,d4⟩⟩
   ·rename_i e
    rw[bu k Dt]at hk
    cases hk
  ·unfold Mu.set
   rw[Iy Dt,bu k hk]
  ·have:k=0:=Dt
   subst this
   simp at hc
 rcases Jx n with h0|h0
 ·subst h0
  have d6:=c85 L a m w
  rw[fu]at d6
  refine d6.mono ?_
  rintro e w' ⟨rfl,rfl⟩
  refine build w' 0 rfl (J5 _) (fun _ _ _=>rfl) (Fr.refl _ _ _) ?_
  rcases b9 with h|⟨b,o,vs,c7,rfl,hh,ho,h1,hd⟩
  ·exact .inl h
  ·exact .inr ⟨b,o,vs,c7,rfl,hh,ho,h1,fun i j s v hi=>absurd hi (Je _)⟩
 ·rcases b9 with h|⟨b,o,vs,c7,rfl,hh,ho,h1,hd⟩
  ·omega
  haveI:Inhabited β:=⟨R.d⟩
  let d:Array β:=(R.lst n f).toArray
  have kg:d.size=n:=by simp only[d,List.size_toArray];exact b8
  have tp:∀i,i<n→d[i]! =R.of (f i):=fun i hi=>by
   rw[K4 d i Dt]
   simp[d,RT.lst]
  have c6:∀i j,i<n→j<R.sz→o+i*R.sz+j<vs.length:=fun i j hi hj=>by
   have:=b59 hi hj
   have:n*R.sz≤m*R.sz:=Jt _ f7
   omega
  have hk:∀x,((R.sv x).map svV).length=R.sz:=fun x=>by simp[hL]
  have qz:∀x,∀v∈(R.sv x).map svV,v.oneCell'=true:=fun x v hv=>by
   obtain⟨s,hs,rfl⟩:=Ja.1 hv
   obtain⟨k,q,rfl⟩:=hI _ s hs
   rfl
  have cq:∀i j,i<n→j<R.sz→vs[o+i*R.sz+j]?=some (((R.sv d[i]!).map svV)[j]!):=by
   intro i j hi hj
   have h9:=c6 i j hi hj
   have bh:j<(R.sv (R.of (f i))).length:=by rw[hL];exact hj
   have hs:(R.sv (R.of (f i)))[j]?=some (R.sv (R.of (f i)))[j]:=Iv bh
   have vp:=hd i j _ _ hi (by rw[gu i hi];exact hs) (Iv h9)
   have:=sv_V hI hs vp
   rw[Iv h9,tp i hi,K4 _ j F0]
   rw[Iv F0]at this
   exact this.symm
  have hH:HoldsK (fun x=>(R.sv x).map svV) R.sz w b o d:=by
   intro t ht
   have tr:t<n*R.sz:=by simpa[kg]using ht
   have t1:t/R.sz<n:=Nat.div_lt_of_lt_mul G1
   have t2:=M4 t bk
   have q:=c37 (enc:=fun x=>(R.sv x).map svV) (k:=R.sz) (d:=d) (i:=t/R.sz) (j:=t%R.sz) Dt t2
   have hc:=cq (t/R.sz) (t%R.sz) t1 t2
   rw[Kb,Me]at hc
   rw[Me]at q
   rw[q.2]
   refine⟨?_,?_⟩
   ·simp only[World.cell?,hh,Option.isSome_none,Ij,List.getElem?_toArray]
    exact hc
   ·simp[World.frozen?,hh]
  have d6:=g55 L R.sz bk aE zE (fun x=>(R.sv x).map svV) hk qz je bb z hz N9 qw b o m d w hH Dt Dt
  rw[fu,kg]at d6
  refine d6.mono ?_
  rintro e w' ⟨rfl,q,dk,zs,rfl,Qe,bj,nw,vw,cz⟩
  have P7:compactUpTo d n=b4r (R.lst n f):=by
   have:=f1q d n Dt
   rw[this]
   simp only[d]
   rw[Ki (by rw[b8];exact J2 _)]
  rw[P7]at bj nw cz⊢
  have hX:b7t μ b:=⟨0,_,hμ,b1p c7⟩
  have zp:∀i,¬b7t μ i→(Sort.putRow id (Sort.ahead w q) b o (setMany (flatK (fun x=>(R.sv x).map svV) R.sz dk) ((b4r (R.lst n f)).length*R.sz) zs)).heap[i]?=w.heap[i]?:=fun i hi=>f33 (fun e=>hi (e▸hX))
  refine build _ _ rfl Dt (fun i _ hi=>zp i hi) ⟨rfl,rfl,rfl,fun _=>Nat.le_add_right _ _,by simp[Sort.putRow,mapBlock,Sort.ahead],fun i _ hi=>zp i hi⟩ (.inr ⟨b,o,(putCells id o (setMany (flatK (fun x=>(R.sv x).map svV) R.sz dk) ((b4r (R.lst n f)).length*R.sz) zs) vs.toArray).toList,c7,rfl,?_,?_,?_,?_⟩)
  ·rw[g1d hh]
  ·rw[Kr,b4n];simpa using ho
  ·intro v hv
   refine c3s (fun t ht=> ?_) (fun v hv=>h1 v Fh) (Array.mem_toList_iff.1 hv)
   rw[size_setMany]at ht
   rw[get_setMany _ _ _ _ ht]
   split
   ·rename_i hc
    rw[K4 zs _ Dt]
    exact vw _ (Jn _)
   ·exact f16 hk qz ht
  ·intro i j s v hi hs hv H μ'
   have hj:j<R.sz:=Gc
   have b7:i<n:=Dt
   have q1:=c37 (enc:=fun x=>(R.sv x).map svV) (k:=R.sz) (d:=dk) (i:=i) (j:=j) Dt hj
   have h9:i*R.sz+j<(b4r (R.lst n f)).length*R.sz:=b59 hi hj
   rw[Kk,Kb,b7k (by rw[size_setMany];exact q1.1) (by simp;have:=c6 i j b7 hj;omega),get_setMany _ _ _ _ q1.1,Iy Dt,q1.2]at hv
   cases hv
   have hg:=cz i hi
   have cc:(R.sv dk[i]!)[j]?=some s:=by
    have:(b4r (R.lst n f)).getD i R.d=dk[i]!:=by rw[It,hg];rfl
    rw[←this];exact hs
   refine sv_D hI cc ?_
   have bh:j<((R.sv dk[i]!).map svV).length:=by rw[Js,hL];exact hj
   rw[K4 _ j bh]
   exact Iv bh
end Go.Proofs.YtdblhepcmjecgaaGreatDoor.V
namespace Go.Proofs
open Go Go.Shelf Go.RowKit Go.Lib Go.Sort
shelf_lay_g SlLaysF0.n6 Slsf 6 at Tryz 133 as Tryz.sortLine
shelf_lay_g CmpLay Slgn 43 at Tryz 138 as Tryz.cmpLine
end Go.Proofs
namespace Go.Proofs.YtdblhepcmjecgaaGreatDoor.V
open Go Go.Sort Go.Proofs Go.Shelf
def lnR:RT (Int×Int):=⟨2,fun x=>[.int .u8 x.1,.int .i64 x.2],fun l=>match l with
 | [.int _ a,.int _ b]=>(a,b)
 |_=>(0,0),(0,0),fun _=>rfl⟩
abbrev nLin1:FuncId:=134
def f4r:Kon
 | [.agg [.int .u8 a,.int .i64 b],.agg [.int .u8 c,.int .i64 d]]=>some (True,.int .i64 (orL [b3f a c,b3f b d]))
 |_=>none
def FLin1:Fam:=⟨(Int×Int)×Int×Int,fun((a,b),c,d)=>[.agg [.int .u8 a,.int .i64 b],.agg [.int .u8 c,.int .i64 d]],fun _=>True,fun((a,b),c,d)=>.int .i64 (orL [b3f a c,b3f b d])⟩
theorem pLin1:PS nLin1 f4r:=by
 refine con [(j0z,g6k),(nCmpk,g32),(nOr,j0w)] (by simpa using⟨pCmp,pCmpk,pOrL⟩) FLin1 (fun _ _=>none) f4r ?_ ?_ Go.Proofs.Tryz.func134 Du Du Du ?_
 ·intro args pre s h hp
  unfold f4r at h
  split at h
  ·rename_i a b c d
   cases h
   exact⟨((a,b),c,d),⟨E8,E8,Ix⟩,Ix,rfl⟩
  ·cases h
 ·exact Bv
 ·rintro⟨⟨a,b⟩,c,d⟩ _
  refine wlk _ ?_;(repeat' first|constructor|refine Iu fun hu=> ?_|intro h);all_goals refine Lm ?_
  all_goals(first
   |rfl
   |exact⟨fun i hi=>match i,hi with
    |0,_=>rfl
    |1,_=>rfl,Dt⟩
   |skip)
abbrev f66:FuncId:=133
def c28(x:Int×Int):List Int:=[x.1,x.2]
theorem f92{x y:Int×Int}(h:c28 x=c28 y):x=y:=by
 cases x;cases y;simp[c28]at h;simp[h]
def d1x:d20:=fun _ sz n g rest=>match rest with
 | [.clo f []]=>if f=nLin1∧sz=2 then some (lnR.is n g∧n≤100000,lnR.row (b2d c28 (lnR.lst n g)),false)else none
 |_=>none
theorem j1e:ES f66 d1x:=by
 refine f5d lnR Go.Proofs.Tryz.sortLine rfl ⟨_,Go.Proofs.Tryz.func133,Du,Du⟩ (fun w=>Go.Proofs.Tryz.isAgg89 w) (fun w=>Go.Proofs.Tryz.sizeOf89 w) (fun _=>rfl) (fun x s hs=> ?_) f4r pLin1 (enters_of Go.Proofs.Tryz.func134 Du rfl) d1x ?_
 ·simp[lnR]at hs
  rcases hs with rfl|rfl<;>exact⟨_,_,rfl⟩
 ·intro T sz n g rest pre g' r h
  unfold d1x at h
  split at h
  rotate_left
  ·cases h
  rename_i f
  split at h
  rotate_left
  ·cases h
  rename_i hc
  obtain⟨rfl,rfl⟩:=hc
  cases h
  refine⟨rfl,rfl,[],c28,rfl,fun hp=>⟨hp.1,hp.2,fun x hx y hy=> ?_,fun x _ y _ e=>f92 e,rfl⟩⟩
  refine⟨True,?_,Ix⟩
  show f4r [.agg [.int .u8 x.1,.int .i64 x.2],.agg [.int .u8 y.1,.int .i64 y.2]]=_
  simp only[f4r,c28,f5w]
abbrev g78:FuncId:=138
def f0a:HK:=fun args own=>match args,own with
 | [.osl 0],[.row T sz n f _]=>if sz=2 then some ⟨lnR.is n f∧n≤100000,.osl 0,[.row T 2 (b4r (lnR.lst n f)).length (lnR.row (b4r (lnR.lst n f))) none],[0]⟩else none
 |_,_=>none
def lnE(x:Int×Int):List Value:=[.int .u8 x.1,.int .i64 x.2]
theorem eqLn:EqlAt Go.Proofs.Tryz.prog 89 (fun x:Int×Int=>.agg (lnE x).toArray) (fun x y=>decide (x=y)):=by
 refine⟨fun x y w=> ?_,GuardAt.agg _ Du⟩
 have u3:=Go.Proofs.Tryz.underlying3
 have a3:=Go.Proofs.Tryz.isAgg3
 have z3:=Go.Proofs.Tryz.sizeOf3
 have uk:=Go.Proofs.Tryz.underlying87
 have ak:=Go.Proofs.Tryz.isAgg87
 have zk:=Go.Proofs.Tryz.sizeOf87
 have hS:Go.Proofs.Tryz.prog.underlying 89=some (.struct (Go.Proofs.Tryz.prog.fieldsOf 89)):=Du
 have hp:Go.Proofs.Tryz.prog.stoodInHeld 89=false:=Du
 simp only[lnE]
 rw[run_eql_struct,show (10000:Nat)=9999+1 from rfl,run_equalIn_agg w 9999 89 _ _ hS hp]
 simp only[Program.fieldsOf,Go.Proofs.Tryz.underlying89]
 go_simp
 by_cases h1:x.fst=y.fst<;>by_cases h2:x.snd=y.snd<;>simp[h1,h2,Prod.ext_iff]
theorem neLn:NeqAt Go.Proofs.Tryz.prog 89 (fun x:Int×Int=>.agg (lnE x).toArray) (fun x y=>decide (x=y)):=by
 refine⟨fun x y w=> ?_,GuardAt.agg _ Du⟩
 have h:=eqLn.1 x y w
 rw[run_eql_struct]at h
 rw[run_neq_struct]
 generalize Sem.run Go.Proofs.Tryz.prog (Op.equalIn 10000 89 (.agg (lnE x).toArray) (.agg (lnE y).toArray)) w=r at h⊢
 cases r with
 |ok b w'=>
  simp only[Lh,Result.ok.injEq,Value.bool.injEq]at h⊢
  exact⟨by rw[h.1],h.2⟩
 |_=>simp[Result.andThen]at h
theorem pCmpLn:HS g78 f0a:=by
 refine compH lnR Go.Proofs.Tryz.cmpLine rfl ⟨_,Go.Proofs.Tryz.func138,Du,Du⟩ Dy (fun w=>Go.Proofs.Tryz.isAgg89 w) (fun w=>Go.Proofs.Tryz.sizeOf89 w) (fun _=>rfl) (fun x s hs=> ?_) eqLn neLn _ (fun w=>Go.Proofs.Tryz.zeroValue89 w) rfl ?_ f0a ?_
 ·simp[lnR]at hs
  rcases hs with rfl|rfl<;>exact⟨_,_,rfl⟩
 ·intro v hv
  simp[Value.cells]at hv
  rcases hv with rfl|rfl<;>rfl
 ·intro args own r h
  unfold f0a at h
  split at h
  ·rename_i T sz n f c
   split at h
   ·rename_i hs
    subst hs
    cases h
    exact⟨T,n,f,c,rfl,rfl,fun hp=>hp,rfl,rfl,rfl⟩
   ·cases h
  ·cases h
abbrev d3n:FuncId:=137
def c19:Kon
 | [.sl 2 n f _]=>some (n≤100000∧∀i,i<n→(f i).all SV.flat0=true,.sl 2 n f none)
 | [.con (.slice none 0 0)]=>some (True,.sl 2 0 (fun _=>[]) none)
 |_=>none
def g0n:Fam:=⟨Nat×(Nat→List SV),fun(n,f)=>[.sl 2 n f none],fun(n,f)=>n≤100000∧∀i,i<n→(f i).all SV.flat0=true,fun(n,f)=>.sl 2 n f none⟩
theorem g24:PF d3n c19:=by
 refine conF {} ⟨Dv,Dv,Dv⟩ g0n (fun _ _=>none) c19 ?_ ?_ Go.Proofs.Tryz.func137 Du Du Du ?_
 ·intro args pre s h hp
  unfold c19 at h
  split at h
  ·rename_i n f c
   cases h
   exact By
  ·cases h
   exact C9
  ·cases h
 ·exact Bu
 ·rintro⟨n,f⟩ ⟨hp,dq⟩
  refine wlk _ ?_;(repeat' first|constructor|refine Iu fun hu=> ?_|intro h);all_goals refine Lm ?_
  all_goals(first
   |exact Af
   |(intro i hi;simp;done)
   |skip)
end Go.Proofs.YtdblhepcmjecgaaGreatDoor.V
namespace Go.Proofs.YtdblhepcmjecgaaGreatDoor.V
open Go
theorem c2g{p:Pt}{r:Mv}{L:List Stk}(h:b1j p r L=0):b2j p r L=0:=by
 unfold b1j at h
 split at h
 ·exact h
 ·rename_i h1;exact Ly.1 h1
def lnA(im:List Cl)(i:Int):Cl:=im.getD i.toNat clR.d
def lnT(p:Pt)(im:List Cl)(u:Int×Int):Int:=d5f (lnA im u.1).x (lnA im u.1).y (lnA im u.1).q (lnA im (b03 p.W p.H u.1 u.2)).x (lnA im (b03 p.W p.H u.1 u.2)).y (lnA im (b03 p.W p.H u.1 u.2)).q
def lnX(p:Pt)(im:List Cl)(u:Int×Int):Int:=c87 (lnA im u.1).x (lnA im u.1).y (lnA im u.1).q (lnT p im u)
def lnV(p:Pt)(im:List Cl)(u:Int×Int):Int×Int:=(keep (lnX p im u) (ciK (lnA im u.1).q (lnT p im u)),keep (lnX p im u) (ciC (lnA im u.1).x (lnA im u.1).y (lnA im u.1).q (lnT p im u)))
def lnH(p:Pt)(im:List Cl)(u:Int×Int):Bool:=decide (kdV p u.1 u.2=0)&&decide (lnX p im u=0)
def lnF(p:Pt)(im:List Cl)(l:List (Int×Int)):List (Int×Int):=(l.filter (lnH p im)).map (lnV p im)
def lnL(p:Pt)(r:Mv):List (Int×Int):=b4r (b2d c28 (lnF p (b01 p r) (b06 p.W p.H)))
def g8y(p:Pt)(r:Mv)(L:List Stk):SV:=.tup [.sl 2 (zL (b1j p r L) (lnL p r)).length (lnR.row (zL (b1j p r L) (lnL p r))) none,.int .i64 (b1j p r L)]
abbrev g9d:FuncId:=77
def f12:Kon
 | [x]=>(b3z x).map fun q=>(q.1,g8y q.2.1 q.2.2.1 q.2.2.2)
 |_=>none
def FLines:Fam:=⟨Pt×Mv×List Stk,fun(p,r,L)=>[.agg (stC p r L)],fun(p,r,L)=>b5n p r∧b2b L,fun(p,r,L)=>g8y p r L⟩
def ILines:Pt×Mv×List Stk→Nat→Option Inv
 |(p,r,L),12=>some {β:=Nat,ok:=fun i=>i≤(b06 p.W p.H).length,st:=fun i=>⟨[⟨47,none,.int .i64 i⟩,⟨46,none,.int .i64 (b06 p.W p.H).length⟩,⟨45,none,.sl 2 (b06 p.W p.H).length (unR.row (b06 p.W p.H)) none⟩,⟨8,none,.osl 1⟩,⟨5,none,.sl 3 (b01 p r).length (clR.row (b01 p r)) none⟩,⟨1,none,.own 0 0⟩],[.cells 31 (stC p r L),.row 89 2 (lnF p (b01 p r) ((b06 p.W p.H).take i)).length (lnR.row (lnF p (b01 p r) ((b06 p.W p.H).take i))) none]⟩,μ:=fun i=>(b06 p.W p.H).length-i,nl:=[.slot 8 89 2]}
 |_,_=>none
theorem j3g{p:Pt}{im:List Cl}{l:List (Int×Int)}{i:Nat}(h:i<l.length)(hd:lnH p im (l.getD i unR.d)=true):lnF p im (l.take (i+1))=lnF p im (l.take i)++[lnV p im (l.getD i unR.d)]:=by
 rw[b0u (d:=unR.d) h];unfold lnF;rw[List.filter_append]
 generalize l.getD i unR.d=x at*
 simp[hd]
theorem f23{p:Pt}{im:List Cl}{l:List (Int×Int)}{i:Nat}(h:i<l.length)(hd:lnH p im (l.getD i unR.d)=false):lnF p im (l.take (i+1))=lnF p im (l.take i):=by
 rw[b0u (d:=unR.d) h];unfold lnF;rw[List.filter_append]
 generalize l.getD i unR.d=x at*
 simp[hd]
theorem g7z{p:Pt}{im:List Cl}{l:List (Int×Int)}{i:Nat}:(lnF p im (l.take i)).length≤l.length:=by
 unfold lnF
 rw[Js]
 exact Ce
theorem tcV_le(X Y Q U V R:Int):0≤d5f X Y Q U V R:=by
 have h:0≤tcV X Y Q U V R [0,1,2]:=by
  simp only[tcV]
  cases tcB X Y Q U V R 0<;>cases tcB X Y Q U V R 1<;>cases tcB X Y Q U V R 2<;>simp
 unfold d5f
 cases tcOk X Y Q U V R
 ·simp
 ·simp only[Ls];split<;>omega
theorem pLines:PS g9d f12:=by
 refine f04 {l:=[(c1f,b8d),(c2w,b9y),(f07,d28),(b31,b1i),(f1z,c94),(g9m,d9b),(c7b,b88),(d4x,c11)],fs:=[(d3n,c19)],fsok:=by simpa using g24,x:=[(f66,d1x)],h:=[(g78,f0a)]} ⟨by simpa using⟨d5j,c7g,j06,b2f,f6t,pTouch,d3m,f81⟩,by simpa using j1e,by simpa using pCmpLn⟩ FLines ILines f12 ?_ ?_ Go.Proofs.Tryz.func77 Du Du Du ?_
 ·intro args pre s h hp
  unfold f12 at h
  split at h
  ·rename_i x
   simp only[Ia]at h
   obtain⟨⟨q,p,r,L⟩,hx,rfl,rfl⟩:=h
   obtain⟨h1,h2,h3⟩:=b1n hx hp
   exact Ca
  ·cases h
 ·exact Bu
 ·rintro⟨p,r,L⟩ ⟨bc,bm⟩
  by_cases hc:b1j p r L=0
  rotate_left
  ·refine wlk _ ?_;(repeat' first|constructor|refine Iu fun hu=> ?_|intro h);all_goals refine Lm ?_
   all_goals(try simp only[I8,b00,RT.lst_row,b0f,b0s,I9]at*)
   all_goals(first
    |exact A7
    |(simp[zL,hc];done)
    |rfl
    |skip)
  have hb:b0w p r=0:=(c0s (c2g hc)).1
  have P:=b6u bc.2.1 hb
  have hs:=(b0r (b54 hb).1).1
  have hN:=b1b hs
  have t5:=P.il
  have qf:cnt p.W p.H=4*p.W*p.H:=Fx
  have gv:=b6s p.W p.H
  have hZ:unZ p.W p.H=b06 p.W p.H:=Iw hs
  have hq:∀i:Nat,i<nOf p.W p.H→0≤((b01 p r).getD i clR.d).q:=fun i hi=>(P.im i hi).2.2.2.1
  all_goals refine wlk _ ?_;(repeat' first|constructor|refine Iu fun hu=> ?_|intro h);all_goals refine Lm ?_
  all_goals(try simp only[I8,b00,RT.lst_row,b0f,b0s,I9]at*)
  all_goals(try first
   |exact A7
   |exact Ay)
  all_goals
   simp only[hZ]
   refine⟨(0:Nat),J5 _,?_,?_⟩
   ·refine wlk _ ?_;(repeat' first|constructor|refine Iu fun hu=> ?_|intro h);all_goals refine Lm ?_
    all_goals first|exact A2|exact Ag|skip
   ·intro j hj
    replace hj:j≤(b06 p.W p.H).length:=hj
    have hy:j<(b06 p.W p.H).length→_:=fun h=>c6b hs (b0c (d:=unR.d) h)
    have hF:=@g7z p (b01 p r) (b06 p.W p.H) j
    refine wlk _ ?_;(repeat' first|constructor|refine Iu fun hu=> ?_|intro h);all_goals refine Lm ?_
    all_goals(try simp only[I8,b00,RT.lst_row,b0f,I9]at*)
    all_goals(try first
     |exact B6
     |exact An
     |(obtain⟨q1,q2,q3,q4⟩:=hy Dt
       first
        |exact Am
        |exact⟨hq _ Dt,hq _ Dt⟩
        |exact⟨hq _ Dt,tcV_le _ _ _ _ _ _⟩)
     |exact Aa
     |exact⟨RT.is_row lnR _,Dt⟩)
    ·have bh:j<(b06 p.W p.H).length:=Dt
     have hT:lnH p (b01 p r) ((b06 p.W p.H).getD j unR.d)=false:=by
      unfold lnH
      rw[Jq (p:=kdV p _ _=0) Dx];rfl
     refine⟨j+1,Fb,Fc,?_⟩
     simp only[f23 bh hT]
     refine wlk _ ?_;(repeat' first|constructor|refine Iu fun hu=> ?_|intro h);all_goals refine Lm ?_
     all_goals first|exact Aj|skip
    ·have bh:j<(b06 p.W p.H).length:=Dt
     have hT:lnH p (b01 p r) ((b06 p.W p.H).getD j unR.d)=true:=by
      unfold lnH
      rw[Jw (p:=kdV p _ _=0) Dx,Jw (p:=lnX p _ _=0) Dx];rfl
     refine⟨j+1,Fb,Fc,?_⟩
     simp only[j3g bh hT,Ig]
     refine wlk _ ?_;(repeat' first|constructor|refine Iu fun hu=> ?_|intro h);all_goals refine Lm ?_
     all_goals first|exact Aj|exact b43 (R:=lnR) rfl|skip
    ·have bh:j<(b06 p.W p.H).length:=Dt
     have hT:lnH p (b01 p r) ((b06 p.W p.H).getD j unR.d)=false:=by
      unfold lnH
      rw[Jq (p:=lnX p _ _=0) Dx];exact Bool.and_false _
     refine⟨j+1,Fb,Fc,?_⟩
     simp only[f23 bh hT]
     refine wlk _ ?_;(repeat' first|constructor|refine Iu fun hu=> ?_|intro h);all_goals refine Lm ?_
     all_goals first|exact Aj|skip
    all_goals
     have ej:j=(b06 p.W p.H).length:=Dt
     subst ej
     have gk:lnR.lst (lnF p (b01 p r) (b06 p.W p.H)).length (lnR.row (b2d c28 (lnF p (b01 p r) (b06 p.W p.H))))=b2d c28 (lnF p (b01 p r) (b06 p.W p.H)):=by
      have:=RT.lst_row lnR (b2d c28 (lnF p (b01 p r) (b06 p.W p.H)))
      rwa[b0p]at this
     have his:lnR.is (lnF p (b01 p r) (b06 p.W p.H)).length (lnR.row (b2d c28 (lnF p (b01 p r) (b06 p.W p.H)))):=by
      have:=RT.is_row lnR (b2d c28 (lnF p (b01 p r) (b06 p.W p.H)))
      rwa[b0p]at this
     have d9:=(f1t (b2d c28 (lnF p (b01 p r) (b06 p.W p.H)))).1
     rw[b0p]at d9
     simp only[Kq,gk,zL,Iw hc]at*
     first
      |exact⟨his,Dt⟩
      |omega
      |exact⟨Dt,fun _ _=>rfl⟩
      |exact hc.symm
      |exact A5
      |skip
theorem ce_in{W H i:Int}(h:b5p W H i=0):0≤i∧i<4*W*H:=by
 unfold b5p at h
 split at h
 ·split at h
  ·rename_i hb;simpa[g3z]using hb
  ·cases h
 ·cases h
theorem j4i{p:Pt}(h:b0m p=0)(he:∀c∈p.l,inK .u8 c.e):∀c∈p.l,(0≤c.c∧c.c<nOf p.W p.H)∧(0≤c.e∧c.e<3)∧b0g p.W p.H c.c c.e=0:=by
 obtain⟨hs,_,h1,_⟩:=b0r h
 have hN:=b1b hs
 intro c hc
 have hb:=Ji.1 h1 c hc
 have hn:b0g p.W p.H c.c c.e=0:=by
  simp only[b65,Jy,Bool.not_eq_true',L1,not_or,Ly]at hb
  exact hb.1
 have hu:=he c hc
 simp only[inK]at hu
 have k1:b5p p.W p.H c.c=0:=by
  rcases Decidable.em (b5p p.W p.H c.c=0)with e|e
  ·exact e
  ·unfold b0g at hn
   rw[Iy e]at hn
   exact absurd hn e
 have k2:b3t (ceX p.W p.H c.c) (ceY p.W p.H c.c) (ceQ p.W p.H c.c) c.e=0:=by
  unfold b0g at hn
  rw[Iw k1]at hn
  split at hn
  ·assumption
  ·cases hn
 have k3:c.e≤2:=by
  unfold b3t at k2
  split at k2
  ·rename_i hh;exact hh.2
  ·cases k2
 have k4:=ce_in k1
 exact⟨Dt,Dt,hn⟩
theorem f94{p:Pt}(h:b0m p=0)(he:∀c∈p.l,inK .u8 c.e):p.l.length≤3072:=by
 have hs:=(b0r h).1
 have hN:=b1b hs
 have hm:=d0a h
 have c6:=j4i h he
 have g:∀i,i<p.l.length→p.l.getD i d0∈p.l:=fun i hi=>b0c hi
 have up:∀i:Nat,i<p.l.length→(i:Int)≤3*(p.l.getD i d0).c+(p.l.getD i d0).e:=by
  intro i
  induction i with
  |zero=>intro hi;have:=c6 _ (g 0 hi);omega
  |succ i ih=>
   intro hi
   have a:=c6 _ (g (i+1) hi)
   have b:=c6 _ (g i Dt)
   have c:=ih Dt
   have o:=hm i (i+1) Dt hi
   unfold d2t d0d at o
   split at o<;>omega
 rcases Jx p.l.length with h0|h0
 ·omega
 ·have a:=up (p.l.length-1) Dt
  have b:=c6 _ (g (p.l.length-1) Dt)
  omega
theorem cr_key{p:Pt}(h:b0m p=0):∀x∈p.l,∀y∈p.l,c04 x=c04 y→x=y:=by
 have hm:=d0a h
 intro x hx y hy e
 obtain⟨i,hi,rfl⟩:=b2v (d:=d0) hx
 obtain⟨j,hj,rfl⟩:=b2v (d:=d0) hy
 simp only[c04,Ip]at e
 have no:∀a b,a<b→b<p.l.length→¬((p.l.getD a d0).c=(p.l.getD b d0).c∧(p.l.getD a d0).e=(p.l.getD b d0).e):=fun a b h1 h2 hh=>by
  have:=hm a b h1 h2
  unfold d2t d0d at this
  rw[hh.1,hh.2]at this
  simp at this
 rcases Lx i j with h|h|h
 ·exact absurd e (no i j h hj)
 ·rw[h]
 ·exact absurd ⟨e.1.symm,e.2.symm⟩ (no j i h hi)
theorem j5g{W H:Int}(_:b0e W H=0){u:Int×Int}(hu:u∈b06 W H):b9h W H u.1 u.2=[u.1,u.2]:=by
 unfold b06 b3a at hu
 simp only[Ja,Kg,K1]at hu
 obtain⟨m,⟨_,hq⟩,rfl⟩:=hu
 unfold isU at hq
 simp only[Ih]at hq
 have e1:b15 W H (unU m).1 (unU m).2=(unU m).1:=by
  unfold b15
  rw[Iw (by exact hq.1)]
  exact Int.min_eq_left (Int.le_of_lt hq.2)
 have e2:b1v W H (unU m).1 (unU m).2=(unU m).2:=by
  unfold b1v
  rw[Iw (by exact hq.1)]
 unfold b9h
 rw[e1,e2]
theorem do_cr{p:Pt}{_:Mv}{sd:List Int}{up:List Bool}(o:Bool)(h:b0m p=0)(he:∀c∈p.l,inK .u8 c.e)(hu:up.length=nOf p.W p.H):g2q p (psF p sd (b06 p.W p.H)) up o∧(psF p sd (b06 p.W p.H)).length≤3072:=by
 have hs:=(b0r h).1
 have hN:=b1b hs
 have qf:cnt p.W p.H=4*p.W*p.H:=Fx
 have hl:=f94 h he
 have gv:=b6s p.W p.H
 have ba:∀u∈psF p sd (b06 p.W p.H),u∈b06 p.W p.H∧kdV p u.1 u.2=0:=fun u hu=>by
  obtain⟨h1,h2⟩:=Kg.1 hu
  unfold psT at h2
  simp only[Ih]at h2
  exact⟨h1,h2.2⟩
 have b8:(psF p sd (b06 p.W p.H)).length≤3072:=L3 (List.length_filter_le _ _) Dt
 refine⟨⟨⟨Dt,fun u di=> ?_⟩,fun x hx y hy e=> ?_⟩,b8⟩
 ·have:=(c6b hs (ba u di).1).1
  omega
 ·have new:∀x∈p.l,∀u∈psF p sd (b06 p.W p.H),c04 x=c04 (mkC up o u)→False:=fun x hx u hu e=>by
   obtain⟨h1,h2⟩:=ba u hu
   have hn:=(c6b hs h1).2.2.1
   have hh:b2m p.l (b9h p.W p.H u.1 u.2)=true:=by
    rw[j5g hs h1]
    refine Jc.2 ⟨x,hx,?_⟩
    simp only[c04,mkC,Ip]at e
    simp[f7m,e.1,e.2]
   exact absurd h2 ((d9z h hn).1 hh)
  unfold d5z at hx hy
  rcases Jf.1 hx with hx|hx<;>rcases Jf.1 hy with hy|hy
  ·exact cr_key h x hx y hy e
  ·obtain⟨u,hu,rfl⟩:=Ja.1 hy
   exact(new x hx u hu e).elim
  ·obtain⟨u,hu,rfl⟩:=Ja.1 hx
   exact(new y hy u hu e.symm).elim
  ·obtain⟨u,hu,rfl⟩:=Ja.1 hx
   obtain⟨v,hv,rfl⟩:=Ja.1 hy
   simp only[c04,mkC,Ip]at e
   rw[show u=v from Prod.ext e.1 e.2]
theorem c93(A B:List Stk):(b0j (A++B)).length=(b0j A).length+(b0j B).length:=En
theorem d0h(x:Stk)(A:List Stk):(b0j (x::A)).length=x.l.length+(b0j A).length:=En
theorem c51:∀(L:List Stk),∀s∈L,s.l.length≤(b0j L).length
 | [],s,h=>E2
 |t::L,s,h=>by
  have e:(b0j (t::L)).length=t.l.length+(b0j L).length:=En
  rcases J8.1 h with rfl|h
  ·omega
  ·have:=c51 L s h
   omega
theorem f0q{A B:List Stk}(h:A.Sublist B):(b0j A).length≤(b0j B).length:=by
 induction h with
 |slnil=>exact J2 _
 |cons a _ ih=>simp only[b0j,List.flatMap_cons,Jj]at ih⊢;omega
 |cons_cons a _ ih=>simp only[b0j,List.flatMap_cons,Jj]at ih⊢;omega
theorem d4f{A B:List Stk}(h:A.Perm B):(b0j A).length=(b0j B).length:=by
 unfold b0j
 exact(List.Perm.flatMap_right _ h).length_eq
theorem f2g{A:List Stk}{f:Stk→Stk}(h:∀s,(f s).l.length=s.l.length):(b0j (A.map f)).length=(b0j A).length:=by
 induction A with
 |nil=>rfl
 |cons s A ih=>
  have e1:(b0j ((s::A).map f)).length=(f s).l.length+(b0j (A.map f)).length:=En
  have e2:(b0j (s::A)).length=s.l.length+(b0j A).length:=En
  rw[e1,e2,h,ih]
theorem f6n{L:List Stk}:∀i,i≤L.length→(b0j ((oF L i).map (·.1))).length=(b0j (L.take i)).length
 |0,_=>by simp[oF,b0j]
 |i+1,h=>by
  have ih:=f6n (L:=L) i Dt
  have e1:L.take (i+1)=L.take i++[L.getD i stR.d]:=b0u (d:=stR.d) Dt
  rw[c0h Dt,e1,c93,←ih]
  have e2:(b0j [L.getD i stR.d]).length=(L.getD i stR.d).l.length:=En
  rw[e2]
  cases hf:fnd (oF L i) (clQ (L.getD i stR.d).c)with
  |some k=>
   have hk:=(b7e hf).1
   rw[b8k hf,List.map_set]
   have cm:k<((oF L i).map (·.1)).length:=by rw[Js];exact hk
   have hg:((oF L i).getD k dO).1=((oF L i).map (·.1))[k]:=by simp[hk]
   rw[hg]
   generalize (oF L i).map (·.1)=O at cm⊢
   have eo:O=O.take k++O[k]::O.drop (k+1):=by rw[List.getElem_cons_drop,List.take_append_drop]
   rw[List.set_eq_take_append_cons_drop,Iw cm]
   have e3:(b0j O).length=(b0j (O.take k)).length+(O[k].l.length+(b0j (O.drop (k+1))).length):=by
    conv=>lhs;rw[eo]
    rw[c93,d0h]
   rw[e3,c93,d0h]
   simp only[Jj]
   omega
  |none=>
   rw[b61 hf,List.map_append,c93]
   simp[b0j]
theorem j0h(L:List Stk):(b0j (ovS L)).length=(b0j L).length:=by
 have h1:(ovS L).Perm ((oF L L.length).map (·.1)):=b30 _ _
 rw[d4f h1,f6n _ (J2 _),Kq]
theorem j3u{L:List Stk}(hp:b67 L)(hf:(b0j L).length≤100000):b2b (ovS L):=by
 have hl:=hp.2.1
 have h1:(ovS L).Perm ((oF L L.length).map (·.1)):=b30 _ _
 have h2:=b8z (L:=L) L.length (J2 _)
 have h3:=d2m hp L.length (J2 _)
 have hm:∀s∈ovS L,∃o∈oF L L.length,o.1=s:=fun s hs=>by
  have:=h1.mem_iff.1 hs
  obtain⟨o,ho,e⟩:=Ja.1 this
  exact⟨o,ho,e⟩
 refine⟨⟨by rw[g1c];omega,fun s hs=> ?_⟩,fun s hs=> ?_,by rw[j0h];exact hf⟩
 ·obtain⟨o,ho,rfl⟩:=hm s hs
  exact h3 o ho
 ·obtain⟨o,ho,rfl⟩:=hm s hs
  exact h2.2.2.1 o ho (fun c=>inK .u8 c.q) (fun s hs=>(hp.2.2.1 s hs).1)
abbrev c3d:FuncId:=121
def kMv2:Kon
 | [.agg [.int .i64 a,.int .i64 b,.int .u8 c,x],.agg [.int .i64 d,.int .i64 e,.int .u8 f,y]]=>match b04.as x,b04.as y with
   |some u,some v=>some ((b04.isL u.1 u.2∧b04.isL v.1 v.2)∧inK .u8 c∧inK .u8 f,.int .i64 (b0v a b c d e f))
   |_,_=>none
 |_=>none
theorem pMv2:PS c3d kMv2:=by
 refine con [(b33,b1t)] H2 FOvr1 (fun _ _=>none) kMv2 ?_ ?_ Go.Proofs.Tryz.func121 Du Du Du ?_
 ·intro args pre s h hp
  unfold kMv2 at h
  split at h
  ·rename_i a b c x d e f y
   split at h
   ·rename_i u v h1 h2
    cases h
    obtain⟨⟨p1,p2⟩,p3⟩:=hp
    refine⟨(⟨⟨a,b,c⟩,b04.lst u.1 u.2⟩,⟨⟨d,e,f⟩,b04.lst v.1 v.2⟩),⟨⟨Dz,Dz,Dz,b04.as_leL h1 p1,Ix⟩,⟨Dz,Dz,Dz,b04.as_leL h2 p2,Ix⟩,Ix⟩,p3,rfl⟩
   ·cases h
  ·cases h
 ·exact Bv
 ·rintro⟨s,t⟩ hp
  replace hp:inK .u8 s.c.q∧inK .u8 t.c.q:=hp
  refine wlk _ ?_;(repeat' first|constructor|refine Iu fun hu=> ?_|intro h);all_goals refine Lm ?_
  all_goals(first
   |exact hp
   |rfl
   |skip)
theorem ov_st(b:Bool)(L:List Stk)(i:Nat)(x y:Stk):over (b9m b (stR.sv x) (stR.row L i)) 0 (stR.sv y)=stR.sv y:=by cases b<;>rfl
theorem ov_st0(L:List Stk)(i:Nat)(y:Stk):over (stR.row L i) 0 (stR.sv y)=stR.sv y:=rfl
theorem f88{L:List Stk}{i j q:Nat}(hi:i<L.length)(hj:j<L.length):
 b9m (decide (q=j)) (over (b9m (decide (j=i)) (over (stR.row L i) 0 (stR.sv (L.getD j stR.d))) (stR.row L j)) 0 (stR.sv (L.getD i stR.d))) (b9m (decide (q=i)) (over (stR.row L i) 0 (stR.sv (L.getD j stR.d))) (stR.row L q))=stR.row (swp stR.d L i j) q:=by
 rw[ov_st0,ov_st]
 have hR:stR.row (swp stR.d L i j) q=stR.sv ((swp stR.d L i j).getD q stR.d):=rfl
 rw[hR,d70 hi hj]
 by_cases e1:q=j
 ·rw[Iw e1,Jw e1]
  by_cases e2:q=i
  ·rw[Jw e2];rfl
  ·rw[Jq e2];rfl
 ·rw[Iy e1,Jq e1]
  by_cases e2:q=i
  ·rw[Iw e2,Jw e2];rfl
  ·rw[Iy e2,Jq e2];rfl
abbrev b7r:TypeId:=71
abbrev nSwR:FuncId:=305
def hSwR:HK:=fun args own=>match args,own with
 | [.osl 0,.int .i64 a,.int .i64 b,.int .i64 k,.clo f []],[.row T 4 n g _]=>if T=b7r∧f=c3d then some ⟨stR.isL n g∧n≤100000∧0≤a∧0≤b∧0≤k∧a+k≤n∧b+k≤n,.tup [],[.row b7r 4 (stR.lst n g).length (stR.row (swR stR.d a.toNat b.toNat k.toNat 0 (stR.lst n g))) none],[]⟩else none
 |_,_=>none
def FSwR:FamH:=⟨List Stk×Nat×Nat×Nat,fun(_,a,b,k)=>[.osl 0,.int .i64 a,.int .i64 b,.int .i64 k,.clo c3d []],fun(l,_)=>[.row b7r 4 l.length (stR.row l) none],fun(l,a,b,k)=>l.length≤100000∧a+k≤l.length∧b+k≤l.length,fun _=>.tup [],fun(l,a,b,k)=>[.row b7r 4 l.length (stR.row (swR stR.d a b k 0 l)) none],[]⟩
def ISwR:List Stk×Nat×Nat×Nat→Nat→Option Inv
 |(l,a,b,k),1=>some {β:=Nat×List Stk,ok:=fun(i,m)=>i≤k∧m.length=l.length∧swR stR.d a b (k-i) i m=swR stR.d a b k 0 l,st:=fun(i,m)=>⟨[⟨10,none,.int .i64 i⟩,⟨3,none,.int .i64 k⟩,⟨2,none,.int .i64 b⟩,⟨1,none,.int .i64 a⟩,⟨0,none,.osl 0⟩],[.row b7r 4 l.length (stR.row m) none]⟩,μ:=fun(i,_)=>k-i}
 |_,_=>none
theorem c3c{n:Nat}{g:Nat→List SV}{c:Option Nat}(h:stR.isL n g):d56 1 [.row b7r 4 n g c] [.row b7r 4 (stR.lst n g).length (stR.row (stR.lst n g)) none]:=
 ⟨⟨Eg,(RT.lst_length stR n g).symm,Ix,RT.row_isL stR h⟩,Ix⟩
theorem pSwR:HS nSwR hSwR:=by
 refine c90 {} ⟨Dv,Dv,Dv⟩ FSwR ISwR hSwR ?_ ?_ ?_ Go.Proofs.Tryz.func305 Du Du Du ?_
 ·intro args own r h hp
  unfold hSwR at h
  split at h
  ·rename_i a b k f T n g c
   split at h
   ·rename_i hT
    obtain⟨rfl,rfl⟩:=hT
    cases h
    obtain⟨p1,p2,p3,p4,p5,p6,p7⟩:=hp
    have hl:=RT.lst_length stR n g
    exact⟨(stR.lst n g,a.toNat,b.toNat,k.toNat),⟨E3,Ee,Ee,Ee,E3,Ix⟩,rfl,c3c p1,⟨Dt,Dt,Dt⟩,rfl,rfl,rfl⟩
   ·cases h
  ·cases h
 ·exact Cc
 ·exact C2
 ·rintro⟨l,a,b,k⟩ μ ⟨h0,h1,h2⟩
  refine wlk _ ?_;(repeat' first|constructor|refine Iu fun hu=> ?_|intro h);all_goals refine Lm ?_
  refine⟨((0:Nat),l),⟨Dt,rfl,by rw[Nat.sub_zero]⟩,?_,?_⟩
  ·refine wln _ ?_;(repeat' first|constructor|refine Iu fun hu=> ?_|intro h);all_goals refine Lm ?_
   all_goals first|rfl|exact Ad|skip
  ·rintro⟨i,m⟩ ⟨cw,be,fj⟩
   have e1:((a:Int)+i).toNat=a+i:=Dt
   have e2:((b:Int)+i).toNat=b+i:=Dt
   refine wln _ ?_;(repeat' first|constructor|refine Iu fun hu=> ?_|intro h);all_goals refine Lm ?_
   all_goals(try simp only[I8,e1,e2]at*)
   all_goals(try first
    |omega
    |exact A9
    |(show _<l.length;omega)
    |(intro q _;left
      have e:swR stR.d a b (k-i) i m=m:=by rw[show k-i=0 from Dt];rfl
      rw[←fj,e]))
   refine⟨(i+1,swp stR.d m (a+i) (b+i)),⟨by show i+1≤k;omega,by show (swp stR.d m (a+i) (b+i)).length=_;rw[c9j];exact be,?_⟩,by show k-(i+1)<k-i;omega,?_⟩
   ·rw[←fj,show k-i=(k-(i+1))+1 from Dt];rfl
   ·refine wln _ ?_;(repeat' first|constructor|refine Iu fun hu=> ?_|intro h);all_goals refine Lm ?_
    all_goals first
     |rfl
     |omega
     |(intro q _;left;exact f88 Dt Dt)
     |skip
abbrev nRot:FuncId:=288
def hRot:HK:=fun args own=>match args,own with
 | [.osl 0,.int .i64 a,.int .i64 m,.int .i64 b,.clo f []],[.row T 4 n g _]=>if T=b7r∧f=c3d then some ⟨stR.isL n g∧n≤100000∧0≤a∧a<m∧m<b∧b≤n,.tup [],[.row b7r 4 (stR.lst n g).length (stR.row (c82 stR.d a.toNat m.toNat b.toNat (stR.lst n g))) none],[]⟩else none
 |_,_=>none
def FRot:FamH:=⟨List Stk×Nat×Nat×Nat,fun(_,a,m,b)=>[.osl 0,.int .i64 a,.int .i64 m,.int .i64 b,.clo c3d []],fun(l,_)=>[.row b7r 4 l.length (stR.row l) none],fun(l,a,m,b)=>l.length≤100000∧a<m∧m<b∧b≤l.length,fun _=>.tup [],fun(l,a,m,b)=>[.row b7r 4 l.length (stR.row (c82 stR.d a m b l)) none],[]⟩
def IRot:List Stk×Nat×Nat×Nat→Nat→Option Inv
 |(l,a,m,b),2=>some {β:=Nat×Nat×Nat×List Stk,ok:=fun(f,i,j,L)=>0<i∧0<j∧i≤m∧m+j≤l.length∧i+j≤f∧L.length=l.length∧j4s stR.d m f i j L=c82 stR.d a m b l,st:=fun(_,i,j,L)=>⟨[⟨11,none,.int .i64 j⟩,⟨10,none,.int .i64 i⟩,⟨4,none,.clo c3d []⟩,⟨2,none,.int .i64 m⟩,⟨0,none,.osl 0⟩],[.row b7r 4 l.length (stR.row L) none]⟩,μ:=fun(f,_)=>f}
 |_,_=>none
theorem pRot:HS nRot hRot:=by
 refine c90 {h:=[(nSwR,hSwR)]} ⟨Dv,Dv,by simpa using pSwR⟩ FRot IRot hRot ?_ ?_ ?_ Go.Proofs.Tryz.func288 Du Du Du ?_
 ·intro args own r h hp
  unfold hRot at h
  split at h
  ·rename_i a m b f T n g c
   split at h
   ·rename_i hT
    obtain⟨rfl,rfl⟩:=hT
    cases h
    obtain⟨p1,p2,p3,p4,p5,p6⟩:=hp
    have hl:=RT.lst_length stR n g
    exact⟨(stR.lst n g,a.toNat,m.toNat,b.toNat),⟨E3,Ee,Ee,Ee,E3,Ix⟩,rfl,c3c p1,⟨Dt,Dt,Dt,Dt⟩,rfl,rfl,rfl⟩
   ·cases h
  ·cases h
 ·exact Cc
 ·exact C2
 ·rintro⟨l,a,m,b⟩ μ ⟨h0,h1,h2,h3⟩
  refine wlk _ ?_;(repeat' first|constructor|refine Iu fun hu=> ?_|intro h);all_goals refine Lm ?_
  all_goals(try(simp only[inK];omega))
  refine⟨(b-a,m-a,b-m,l),⟨by show 0<m-a;omega,by show 0<b-m;omega,by show m-a≤m;omega,by show m+(b-m)≤_;omega,by show m-a+(b-m)≤b-a;omega,rfl,rfl⟩,?_,?_⟩
  ·refine wln _ ?_;(repeat' first|constructor|refine Iu fun hu=> ?_|intro h);all_goals refine Lm ?_
   all_goals first|rfl|exact B7|skip
  ·rintro⟨f,i,j,L⟩ ⟨i1,i2,i3,i4,i5,i6,i7⟩
   obtain⟨f,rfl⟩:∃f',f=f'+1:=⟨f-1,Dt⟩
   simp only[j4s]at i7
   have bz:stR.lst l.length (stR.row L)=L:=by rw[←i6];exact RT.lst_row _ _
   have nv:stR.isL l.length (stR.row L):=by rw[←i6];exact stR.isL_row L
   have e1:((m:Int)-i).toNat=m-i:=Dt
   have e2:((m:Int)+j-i).toNat=m+j-i:=Dt
   rcases Lx i j with dj|dj|dj
   ·rw[Iy Dt,Iy Dt]at i7
    refine wln _ ?_;(repeat' first|constructor|refine Iu fun hu=> ?_|intro h);all_goals refine Lm ?_
    all_goals(try simp only[I8,I9]at*)
    all_goals(try first
     |exact As
     |(rw[bz,i6];done))
    have hs:=c31 (d:=stR.d) (a:=m-i) (b:=m+j-i) i 0 L Dt Dt
    refine⟨(f,i,j-i,swR stR.d (m-i) (m+j-i) i 0 L),⟨i1,by show 0<j-i;omega,i3,by show m+(j-i)≤_;omega,by show i+(j-i)≤f;omega,by show (swR stR.d (m-i) (m+j-i) i 0 L).length=_;rw[hs.1];exact i6,i7⟩,Ea,?_⟩
    all_goals refine wln _ ?_;(repeat' first|constructor|refine Iu fun hu=> ?_|intro h);all_goals refine Lm ?_
    all_goals(try simp only[bz,e1,e2])
    all_goals first|rfl|omega|exact i6|exact Ad|skip
   ·rw[Iw dj]at i7
    refine wln _ ?_;(repeat' first|constructor|refine Iu fun hu=> ?_|intro h);all_goals refine Lm ?_
    all_goals(try simp only[I8,I9]at*)
    all_goals(try first
     |exact As
     |(rw[bz,i6];done))
    all_goals(try simp only[bz,e1])
    all_goals(try rw[←i7])
    all_goals first|rfl|exact i6|exact Ad|skip
   ·rw[Iy Dt,Iw dj]at i7
    refine wln _ ?_;(repeat' first|constructor|refine Iu fun hu=> ?_|intro h);all_goals refine Lm ?_
    all_goals(try simp only[I8,I9]at*)
    all_goals(try first
     |exact As
     |(rw[bz,i6];done))
    have hs:=c31 (d:=stR.d) (a:=m-i) (b:=m) j 0 L Dt Dt
    refine⟨(f,i-j,j,swR stR.d (m-i) m j 0 L),⟨by show 0<i-j;omega,i2,by show i-j≤m;omega,i4,by show i-j+j≤f;omega,by show (swR stR.d (m-i) m j 0 L).length=_;rw[hs.1];exact i6,i7⟩,Ea,?_⟩
    all_goals refine wln _ ?_;(repeat' first|constructor|refine Iu fun hu=> ?_|intro h);all_goals refine Lm ?_
    all_goals(try simp only[bz,e1])
    all_goals first|rfl|omega|exact i6|exact Ad|skip
def b1s(x y:Stk):Bool:=decide (b0v x.c.x x.c.y x.c.q y.c.x y.c.y y.c.q<0)
theorem b49{x y:Stk}:b1s x y=true↔b0v x.c.x x.c.y x.c.q y.c.x y.c.y y.c.q<0:=by unfold b1s;exact decide_eq_true_iff
theorem g0c{a j:Nat}{M:List Stk}(h1:a<j)(h2:b1s (M.getD j stR.d) (M.getD (j-1) stR.d)=true):c75 stR.d b1s a j M=c75 stR.d b1s a (j-1) (swp stR.d M j (j-1)):=by
 obtain⟨k,rfl⟩:∃k,j=k+1:=⟨j-1,Dt⟩
 simp only[Nat.add_sub_cancel]at h2⊢
 rw[c75,Iw ⟨h1,h2⟩]
theorem f44{a j:Nat}{M:List Stk}(h:¬(a<j∧b1s (M.getD j stR.d) (M.getD (j-1) stR.d)=true)):c75 stR.d b1s a j M=M:=by
 cases j with
 |zero=>rfl
 |succ k=>
  simp only[Nat.add_sub_cancel]at h
  rw[c75,Iy h]
abbrev nIns:FuncId:=150
def hIns:HK:=fun args own=>match args,own with
 | [.osl 0,.int .i64 a,.int .i64 b,.clo f []],[.row T 4 n g _]=>if T=b7r∧f=c3d then some ⟨stR.isL n g∧n≤100000∧0≤a∧a≤100000∧0≤b∧b≤n∧(∀s∈stR.lst n g,inK .u8 s.c.q),.tup [],[.row b7r 4 (stR.lst n g).length (stR.row (f1s stR.d b1s a.toNat b.toNat (stR.lst n g))) none],[]⟩else none
 |_,_=>none
def FIns:FamH:=⟨List Stk×Nat×Nat,fun(_,a,b)=>[.osl 0,.int .i64 a,.int .i64 b,.clo c3d []],fun(l,_)=>[.row b7r 4 l.length (stR.row l) none],fun(l,a,b)=>l.length≤100000∧a≤100000∧b≤l.length∧∀s∈l,inK .u8 s.c.q,fun _=>.tup [],fun(l,a,b)=>[.row b7r 4 l.length (stR.row (f1s stR.d b1s a b l)) none],[]⟩
def IIns:List Stk×Nat×Nat→Nat→Option Inv
 |(l,a,b),1=>some {β:=Nat×List Stk,ok:=fun(i,L)=>a+1≤i∧i≤a+b+1∧Sub L l∧c6g stR.d b1s a (b-i) i L=f1s stR.d b1s a b l,st:=fun(i,L)=>⟨[⟨8,none,.int .i64 i⟩,⟨3,none,.clo c3d []⟩,⟨2,none,.int .i64 b⟩,⟨1,none,.int .i64 a⟩,⟨0,none,.osl 0⟩],[.row b7r 4 l.length (stR.row L) none]⟩,μ:=fun(i,_)=>b-i,sub:=fun(i,_)=>some fun
  |4=>some {β:=Nat×List Stk,ok:=fun(j,L)=>j≤i∧i<b∧Sub L l∧c6g stR.d b1s a (b-(i+1)) (i+1) (c75 stR.d b1s a j L)=f1s stR.d b1s a b l,st:=fun(j,L)=>⟨[⟨9,none,.int .i64 j⟩,⟨8,none,.int .i64 i⟩,⟨3,none,.clo c3d []⟩,⟨2,none,.int .i64 b⟩,⟨1,none,.int .i64 a⟩,⟨0,none,.osl 0⟩],[.row b7r 4 l.length (stR.row L) none]⟩,μ:=fun(j,_)=>j}
  |_=>none}
 |_,_=>none
theorem pIns:HS nIns hIns:=by
 refine c90 {l:=[(c3d,kMv2)]} ⟨by simpa using pMv2,Dv,Dv⟩ FIns IIns hIns ?_ ?_ ?_ Go.Proofs.Tryz.func150 Du Du Du ?_
 ·intro args own r h hp
  unfold hIns at h
  split at h
  ·rename_i a b f T n g c
   split at h
   ·rename_i hT
    obtain⟨rfl,rfl⟩:=hT
    cases h
    obtain⟨p1,p2,p3,p4,p5,p6,p7⟩:=hp
    have hl:=RT.lst_length stR n g
    exact⟨(stR.lst n g,a.toNat,b.toNat),⟨E3,Ee,Ee,E3,Ix⟩,rfl,c3c p1,⟨Dt,Dt,Dt,p7⟩,rfl,rfl,rfl⟩
   ·cases h
  ·cases h
 ·intro i;show 4≤_;decide
 ·exact C2
 ·rintro⟨l,a,b⟩ μ ⟨h0,h1,h2,h3⟩
  refine wlk _ ?_;(repeat' first|constructor|refine Iu fun hu=> ?_|intro h);all_goals refine Lm ?_
  all_goals(try(simp only[inK];omega))
  refine⟨(a+1,l),⟨J2 _,by show a+1≤a+b+1;omega,Sub.refl l,rfl⟩,?_,?_⟩
  ·refine wln _ ?_;(repeat' first|constructor|refine Iu fun hu=> ?_|intro h);all_goals refine Lm ?_
   all_goals first|rfl|exact B7|skip
  ·rintro⟨i,L⟩ ⟨i1,i2,i3,i4⟩
   refine wln _ ?_;(repeat' first|constructor|refine Iu fun hu=> ?_|intro h);all_goals refine Lm ?_
   all_goals(try simp only[I8]at*)
   all_goals(try first
    |omega
    |exact A9
    |(intro q _;left
      have e:c6g stR.d b1s a (b-i) i L=L:=by rw[show b-i=0 from Dt];rfl
      rw[←i4,e]))
   refine⟨(i,L),⟨J2 _,Dt,i3,?_⟩,?_,?_⟩
   ·rw[←i4,show b-i=(b-(i+1))+1 from Dt];rfl
   ·refine wln _ ?_;(repeat' first|constructor|refine Iu fun hu=> ?_|intro h);all_goals refine Lm ?_
    all_goals first|rfl|exact Ad|skip
   ·rintro⟨j,M⟩ ⟨j1,j2,j3,j4⟩
    have hq:∀x,x<l.length→inK .u8 (M.getD x stR.d).c.q:=fun x hx=>h3 _ (j3.2 _ (by rw[It,Iv (by rw[j3.1];exact hx),K6];exact Jn _))
    have hM:=j3.1
    have e1:((j:Int)-1).toNat=j-1:=Dt
    by_cases hc:a<j∧b0v (M.getD j stR.d).c.x (M.getD j stR.d).c.y (M.getD j stR.d).c.q (M.getD (j-1) stR.d).c.x (M.getD (j-1) stR.d).c.y (M.getD (j-1) stR.d).c.q<0
    ·obtain⟨vu,Ny⟩:=hc
     refine wln _ ?_;(repeat' first|constructor|refine Iu fun hu=> ?_|intro h);all_goals refine Lm ?_
     all_goals(try simp only[I8,If,e1]at*)
     all_goals(try first
      |exact Aw
      |(show j<l.length;omega)
      |(show j-1<l.length;omega)
      |exact Bj)
     have hs:=c02 (d:=stR.d) (l:=M) (i:=j) (j:=j-1) Dt Dt
     refine⟨(j-1,swp stR.d M j (j-1)),⟨by show j-1≤i;omega,j2,hs.trans j3,?_⟩,by show j-1<j;omega,?_⟩
     ·rw[←j4,g0c vu (b49.2 Ny)]
     ·refine wln _ ?_;(repeat' first|constructor|refine Iu fun hu=> ?_|intro h);all_goals refine Lm ?_
      all_goals first
       |rfl
       |omega
       |(show (j:Int)-1=((j-1:Nat):Int);omega)
       |(intro q _;left;exact f88 Dt Dt)
       |skip
    ·refine wln _ ?_;(repeat' first|constructor|refine Iu fun hu=> ?_|intro h);all_goals refine Lm ?_
     all_goals(try simp only[I8,If,e1]at*)
     all_goals(try first
      |exact Aw
      |exact Bj)
     have e:c75 stR.d b1s a j M=M:=f44 (fun hh=>hc ⟨hh.1,b49.1 hh.2⟩)
     refine⟨(i+1,M),⟨by show a+1≤i+1;omega,by show i+1≤a+b+1;omega,j3,by rw[←j4,e]⟩,by show b-(i+1)<b-i;omega,?_⟩
     all_goals refine wln _ ?_;(repeat' first|constructor|refine Iu fun hu=> ?_|intro h);all_goals refine Lm ?_
     all_goals first
      |rfl
      |exact B7
      |skip
end Go.Proofs.YtdblhepcmjecgaaGreatDoor.V
