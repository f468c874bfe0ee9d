/-
  Parts of the proof: C17 A43 A44. Conditions: none.
-/
import Derived.Test.YtngppkidkigcbaaGreatDoorSfc5
import Derived.Test.YtngppkidkigcbaaGreatDoorSfc15
import Derived.Test.YtngppkidkigcbaaGreatDoorSfc9
set_option maxRecDepth 100000
set_option maxHeartbeats 40000000
namespace Go.Proofs.YtngppkidkigcbaaGreatDoor.V
open Go
def Ov(p:Pt)(r:Mv)(L:List Stk)(i:Int):Int:=if FJ p r L=0 then(if i<0\/((FW p r).length:Int)<=i then 7 else 0)else FJ p r L
def Rs(p:Pt)(r:Mv)(L:List Stk)(i:Int):Bool:=if Ov p r L i=0 then(FW p r).getD i.toNat FX.d else false
def Vm:AK
 | [x,.int .i64 i]=>(KU x).map λq=>(q.1,.tup [.bool (Rs q.2.1 q.2.2.1 q.2.2.2 i),.int .i64 (Ov q.2.1 q.2.2.1 q.2.2.2 i)])
 |_=>none
def FStUp:Fam:=⟨(Pt×Mv×List Stk)×Int,λ((p,r,L),i)=>[.agg (EF p r L),.int .i64 i],λ((p,r,L),_)=>EL p r/\FK L,λ((p,r,L),i)=>.tup [.bool (Rs p r L i),.int .i64 (Ov p r L i)]⟩
theorem f7q{p:Pt}{r:Mv}{L:List Stk}(h:FJ p r L=0):DP p r L=0:=by
 unfold FJ at h;split at h
 .exact h
 .rename_i a;exact Decidable.not_not.1 a
theorem pStUp:PS 26 Vm:=by
 refine con [(15,RY),(60,kUp)] (by simpa using⟨Xy,pUp⟩) FStUp (λ_ _=>none) Vm ?_ ?_ Tryz.func26 Dk Dk Dk ?_
 .intro args pre s h d;unfold Vm at h;split at h
  .rename_i x i;simp only[Hx]at h;obtain⟨⟨q,p,r,L⟩,hx,rfl,rfl⟩:=h;obtain⟨h1,b,f⟩:=PD hx d;exact⟨((p,r,L),i),⟨h1,Dt,Im⟩,⟨b,f⟩,rfl⟩
  .cases h
 .exact Bt
 .rintro⟨⟨p,r,L⟩,i⟩ ⟨c9,c8⟩;refine X0 _ ?_;(repeat' first|constructor|intro h)<;>refine Lm ?_
  all_goals(try simp only[CL,RT.lst_row,Sx,SS]at*)
  .exact Df
  iterate 2
   .have a:¬FJ p r L=0:=Dr;have e:Ov p r L i=FJ p r L:=Ii a;first|exact e.symm|(unfold Rs;rw[e,if_neg a];done)
  .exact⟨⟨⟨EY _,c9.1.1⟩,c9.1.2⟩,c9.2⟩
  iterate 2
   .rename_i h1;have a:FJ p r L=0:=Ee;have b:¬CE p r=0:=Dr;exact absurd ((b8r (f7q a)).1) b
  iterate 2
   .rename_i h1 b;have a:FJ p r L=0:=Ee;have c:i<0\/((FW p r).length:Int)<=i:=Dr;have e:Ov p r L i=7:=by unfold Ov;rw[if_pos a,if_pos c]
    first|exact e.symm|(unfold Rs;rw[e];rfl)
  all_goals
   rename_i h1 b;have a:FJ p r L=0:=Ee;have c:¬(i<0\/((FW p r).length:Int)<=i):=by
    intro g;have:(decide (i<0)||decide (((FW p r).length:Int)<=i))=true:=by simpa using g
    rw[this]at h;cases h
   have e:Ov p r L i=0:=by unfold Ov;rw[if_pos a,if_neg c]
   first
    |omega
    |exact e.symm
    |(unfold Rs;rw[e,if_pos rfl];done)
    |skip
def f0e(p:Pt):SV:=.agg [.int .i64 p.W,.int .i64 p.H,.sl 3 p.l.length (DS p.l) (some p.l.length)]
def ptOK(p:Pt):Prop:=p.l.length<=100000
def c64:AK
 | [x]=>(Np x).map λq=>(q.1,f0e q.2)
 |_=>none
def FStCop:Fam:=⟨Pt,λp=>[IG p],ptOK,f0e⟩
theorem pStCop:PS 45 c64:=by
 refine con [(88,b0n),(89,b07)] (by simpa using⟨c1w,c1r⟩) FStCop (λ_ _=>none) c64 ?_ ?_ Tryz.func45 Dk Dk Dk ?_
 .intro args pre s h a;unfold c64 at h;split at h
  .rename_i x;simp only[Hx]at h;obtain⟨⟨q,p⟩,hx,rfl,rfl⟩:=h;obtain⟨b,c⟩:=Oq hx a;exact⟨p,⟨b,Im⟩,c,rfl⟩
  .cases h
 .exact Bu
 .rintro p a;replace a:p.l.length<=100000:=a;exact X2b
def Kl(p:Pt)(r:Mv)(L:List Stk)(m:Mv):Int:=if¬GK r.t r.x r.y m.t m.x m.y=0\/¬IY m L=0 then 3 else if¬DP p (GG r m) (JH m L)=0 then 3 else 0
def rMvd(p:Pt)(r:Mv)(L:List Stk)(m:Mv):SV:=.tup [.agg (EF (zP (Kl p r L m) p) (zR (Kl p r L m) (GG r m)) (zL (Kl p r L m) (JH m L))),.int .i64 (Kl p r L m)]
def kMvd:AK
 | [x,.agg [.int .u8 t,.int .i64 a,.int .i64 b]]=>(KU x).map λq=>(q.1/\0<=t/\t<=255,rMvd q.2.1 q.2.2.1 q.2.2.2 ⟨t,a,b⟩)
 |_=>none
def FMvd:Fam:=⟨(Pt×Mv×List Stk)×Mv,λ((p,r,L),m)=>[.agg (EF p r L),Ms m],λ((p,r,L),m)=>(EL p r/\FK L)/\0<=m.t/\m.t<=255,λ((p,r,L),m)=>rMvd p r L m⟩
theorem mv_in{L:List Stk}{m:Mv}(h:FK L)(c:IY m L=0):FK (JH m L):=by
 have a:(JH m L).Perm (L.map (MW m)):=by unfold JH;rw[Ih c];exact(c0f _).3
 refine⟨⟨by rw[a.length_eq,Jp];exact h.1.1,λs hs=> ?_⟩,λs hs=> ?_,?_⟩
 .obtain⟨t,b,rfl⟩:=J4.1 (a.mem_iff.1 hs);exact h.1.2 t b
 .obtain⟨t,b,rfl⟩:=J4.1 (a.mem_iff.1 hs);exact f03 _ _
 .rw[d40 a,d9j (f:=MW m) (λ_=>rfl)];exact h.2.2
theorem th_in{p:Pt}{r m:Mv}(h:EL p r)(a:0<=m.t/\m.t<=255):EL p (GG r m):=⟨h.1,c4n h.2.1 a.1⟩
theorem pMvd:PS 47 kMvd:=by
 refine con [(90,Tk),(91,b7n),(45,c64),(92,VM)] (by simpa using⟨f54,f5p,pStCop,c10⟩) FMvd (λ_ _=>none) kMvd ?_ ?_ Tryz.func47 Dk Dk Dk ?_
 .intro args pre s h j;unfold kMvd at h;split at h
  .rename_i x t a b;simp only[Hx]at h;obtain⟨⟨q,p,r,L⟩,hx,rfl,rfl⟩:=h;obtain⟨k,l,n⟩:=PD hx j.1;exact⟨((p,r,L),⟨t,a,b⟩),⟨k,G5,Im⟩,⟨⟨l,n⟩,j.2⟩,rfl⟩
  .cases h
 .exact Bt
 .rintro⟨⟨p,r,L⟩,m⟩ ⟨⟨e,c⟩,d⟩;have o:=λh=>@mv_in L m c h;have u:=th_in e d;have v:=d1w c.1;have f:=(UU e c).1;refine X0 _ ?_;(repeat' first|constructor|intro h)<;>refine Lm ?_
  all_goals(try simp only[RT.lst_row,CL,SS,Sx,I7,Hw,I0]at*)
  all_goals(try first
   |exact⟨e.2,d⟩
   |exact⟨v,d.1,d.2,c.2.1⟩
   |exact f.1
   |(obtain⟨g1,w⟩:=‹GK r.t r.x r.y m.t m.x m.y=0/\IY m L=0›
     have hi:=o w;exact⟨⟨⟨f.1,f.2.1⟩,u.2⟩,d1w hi.1,hi.2⟩))
  all_goals first
   |(have g:Kl p r L m=3:=by
      unfold Kl;first
       |(rw[Ih Dp];done)
       |(rw[Ii Dj,Ih Dp];done)
     simp only[zP,zR,zL,g];all_goals first|exact B2)
   |(have g:Kl p r L m=0:=by
      unfold Kl;rw[Ii Dj,Ii (λq=>q Dp)]
     simp only[zP,zR,zL,g,eq_self,Jv];all_goals first|exact A2)
   |skip
def Nj(p:Pt)(r:Mv)(L:List Stk)(k C:Int):Int:=if¬FJ p r L=0 then FJ p r L else if¬FE k C=0 then 1 else Kl p r L (EG k C)
def flpS(L:List Stk)(k C:Int):List Stk:=(JH (EG k C) L).map OB
def rFlp(p:Pt)(r:Mv)(L:List Stk)(k C:Int):SV:=.tup [.agg (EF (zP (Nj p r L k C) p) (zR (Nj p r L k C) (GG r (EG k C))) (zL (Nj p r L k C) (flpS L k C))),.int .i64 (Nj p r L k C)]
def kFlp:AK
 | [x,.agg [.int .u8 k,.int .i64 C]]=>(KU x).map λq=>(q.1,rFlp q.2.1 q.2.2.1 q.2.2.2 k C)
 |_=>none
def FFlp:Fam:=⟨(Pt×Mv×List Stk)×Int×Int,λ((p,r,L),k,C)=>[.agg (EF p r L),.agg [.int .u8 k,.int .i64 C]],λ((p,r,L),_)=>EL p r/\FK L,λ((p,r,L),k,C)=>rFlp p r L k C⟩
theorem mvd_in{p:Pt}{r m:Mv}{L:List Stk}(h:FK L)(a:Kl p r L m=0):FK (JH m L):=by
 unfold Kl at a;split at a
 .cases a
 .exact mv_in h Dj
theorem mvd_z{p:Pt}{r m:Mv}{L:List Stk}(h:FK L):FH (zL (Kl p r L m) (JH m L)):=by
 unfold zL;split
 .exact(mvd_in h Dp).1
 .exact⟨Ix _,λs hs=>nomatch hs⟩
theorem pFlp:PS 27 kFlp:=by
 refine con [(15,RY),(61,XR),(47,kMvd),(62,c4d)] (by simpa using⟨Xy,pMvOf,pMvd,pStRev⟩) FFlp (λ_ _=>none) kFlp ?_ ?_ Tryz.func27 Dk Dk Dk ?_
 .intro args pre s h f;unfold kFlp at h;split at h
  .rename_i x k C;simp only[Hx]at h;obtain⟨⟨q,p,r,L⟩,hx,rfl,rfl⟩:=h;obtain⟨g,j,l⟩:=PD hx f;exact⟨((p,r,L),k,C),⟨g,Dz,Im⟩,⟨j,l⟩,rfl⟩
  .cases h
 .exact Bt
 .rintro⟨⟨p,r,L⟩,k,C⟩ ⟨m,d⟩;have e:=UU m d;have b:=d4e k C;have n:=@mvd_z p r (EG k C) L d;refine X0 _ ?_;(repeat' first|constructor|intro h)<;>refine Lm ?_
  all_goals(try simp only[show (⟨keep (FE k C) (NM k),keep (FE k C) (Ph k C),keep (FE k C) (QJ k C)⟩:Mv)=EG k C from rfl,RT.lst_row,CL,SS,Sx,Hw,I0]at*)
  all_goals(try first
   |exact e
   |exact⟨e,b⟩
   |exact b
   |exact λ_=>b
   |omega)
  all_goals first
   |exact d1w n
   |(have a:Nj p r L k C=FJ p r L:=by
      unfold Nj;rw[Ih Dp]
     simp only[zP,zR,zL,a,Ii ‹¬ FJ p r L=0›];all_goals first|exact B2)
   |(have a:Nj p r L k C=1:=by
      unfold Nj;rw[Ii (λq=>q ‹FJ p r L=0›),Ih Dp]
     simp only[zP,zR,zL,a];all_goals first|exact B2)
   |(have a:Nj p r L k C=Kl p r L (EG k C):=by
      unfold Nj;rw[Ii (λq=>q ‹FJ p r L=0›),Ii (λq=>q ‹FE k C=0›)]
     first
      |(have c:¬Kl p r L (EG k C)=0:=by assumption
        simp only[zP,zR,zL,a,Ii c];all_goals first|exact B2)
      |(have c:Kl p r L (EG k C)=0:=by assumption
        simp only[zP,zR,zL,a,c,Jv,flpS];all_goals first|exact A2))
   |skip
end Go.Proofs.YtngppkidkigcbaaGreatDoor.V
