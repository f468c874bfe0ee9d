/-
  Parts of the proof: C9a C9b C9c C9 C10 C11a C11 C12 C13 C14 C15 U0 U1 U2 U3 U4 U6 C16 C18 C19 C20 C21 Q5 A23 Q6 A24 A25 A26 A28 A27 A29 Q7 C23 C24 A41 A30 A31. Conditions: none.
-/
import Derived.Test.YtlffhjfkaepimaaGreatDoorGec1
import Derived.Test.YtlffhjfkaepimaaGreatDoorGec5
import Derived.RangeFuncWrites
import Derived.RangeFuncBox
import Derived.RangeFuncLeaves
import Derived.RangeFuncCalls
import Derived.RangeFuncBound
import Derived.Shelf.Abstract
import Derived.Shelf.RegionOpen
import Derived.WalkKit
import Derived.OwnWalkIn
import Derived.TacticsInMore
import Derived.LoopNIn
import Derived.LoopIn
import Derived.Maps.AppendAt
import Derived.Shelf.SlicesE.Compact
import Derived.Shelf.SlicesQ.Reverse
import Derived.Ground.SlgnProg
set_option maxRecDepth 100000
set_option maxHeartbeats 40000000
namespace Go.Proofs
open Go Go.Lib Go.RowKit Go.Shelf Go.Sort
shelf_lay_g SlLaysF0.n6 Slsf 6 at Tryz 111 as Tryz.sortKey
shelf_lay_g SlLaysF0.n6 Slsf 6 at Tryz 82 as Tryz.sortCrease
shelf_lay_g SlLaysF0.n6 Slsf 6 at Tryz 76 as Tryz.sortStack
end Go.Proofs
namespace Go.Proofs.YtlffhjfkaepimaaGreatDoor.V
open Go
def Bo(c:Cl):List Int:=[c.y,c.x,c.q]
theorem WB(a b:Cl):GM a.x a.y a.q b.x b.y b.q=BA (Bo a) (Bo b):=by
 simp only[GM,SP,BA,Bo,CC];repeat' split
 all_goals(first|rfl|omega)
theorem b9y{a b:Cl}(h:Bo a=Bo b):a=b:=by simp only[Bo,J9]at h;exact Cl.ext' h.2.1 h.1 h.2.2
theorem c81{L:List Stk}(h:∀i,0<i->i<L.length->BA (Bo (L.getD (i-1) AA.d).c) (Bo (L.getD i AA.d).c)<0):∀j i,i<j->j<L.length->BA (Bo (L.getD i AA.d).c) (Bo (L.getD j AA.d).c)<0
 |0,i,b,_=>Dz
 |j+1,i,b,f=>by
  have a:=h (j+1) Dz f;simp only[O3]at a;by_cases e:i=j
  .subst e;exact a
  .exact Um _ _ _ (c81 h j i Dz Dz) a
theorem b7h:∀(n:Nat) (l:List Int),l.Nodup->(∀x∈l,0<=x/\x<n)->l.length<=n
 |0,[],_,_=>Jp _
 |0,x::l,_,h=>by have:=h x E2;omega
 |n+1,l,a,h=>by
  by_cases e:(n:Int)∈l
  .have b:=b7h n (l.erase n) (a.erase _) (λx hx=>by
    have:=(List.Nodup.mem_erase_iff a).1 hx;have:=h x this.2;omega)
   rw[List.length_erase_of_mem e]at b;omega
  .have:=b7h n l a (λx hx=>by
    have:=h x hx;have:x≠n:=λc=>e (c▸hx);omega)
   omega
theorem c3m:∀{l:List Int},LR l=false->l.Nodup
 | [],_=>Nt
 |x::l,h=>by simp only[LR,M6]at h;exact Lp.2 ⟨by simpa using h.1,c3m h.2⟩
structure SkOK (p:Pt) (r:Mv) (L:List Stk):Prop where
 hs:AV p.W p.H=0
 P:PlOK p r
 lt:∀i j,i<j->j<L.length->BA (Bo (L.getD i AA.d).c) (Bo (L.getD j AA.d).c)<0
 vc:∀s∈L,vC s.c
 ne:∀s∈L,s.l≠[]
 nd:(BD L).Nodup
 rg:∀v∈BD L,0<=v/\v<4*p.W*p.H
 all:∀u:Int,0<=u->u<4*p.W*p.H->u∈BD L
 im:∀s∈L,∀v∈s.l,(Al p r).getD v.toNat CJ.d=s.c
 nb:∀s∈L,∀e:Int,0<=e->e<3->FU s.c.x s.c.y s.c.q e=0
theorem DP{α:Type}{l:List α}{i:Nat}{d:α}(h:i<l.length):l.getD i d∈l:=by rw[Jg,Jh h];exact Kj h
theorem OX{α:Type}{l:List α}{x d:α}(h:x∈l):∃i,i<l.length/\l.getD i d=x:=by obtain⟨i,a,e⟩:=Kg.1 h;exact⟨i,a,by rw[Jg,Jh a];exact e⟩
theorem VG{p:Pt}{r:Mv}{L:List Stk}(h:EO p r L=0):CH p r=0/\MH p.W p.H L=0/\L.any (Tb (Al p r))=false/\L.any Tq=false:=by
 unfold EO at h;split at h
 .rename_i a;split at h
  .rename_i b;split at h
   .cases h
   .rename_i h3;split at h
    .cases h
    .rename_i h4;exact⟨a,b,Fq,Fk⟩
  .rename_i b;exact absurd h b
 .rename_i a;exact absurd h a
theorem Xa{p:Pt}{r:Mv}{L:List Stk}(h:EO p r L=0)(z:0<=r.t)(A:∀s∈L,AD .u8 s.c.q):SkOK p r L:=by
 obtain⟨B,C,E,F⟩:=VG h;obtain⟨hs,n,G,hl⟩:=b8c C;have I:=c21 n;have hc:CM p.W p.H=4*p.W*p.H:=by simp[CM,hs]
 have hN:=CG hs;have o:=c3m G;have w:∀v∈BD L,0<=v/\v<4*p.W*p.H:=by intro v k;obtain⟨s,hs',J⟩:=List.mem_flatMap.1 k;obtain⟨i,a,rfl⟩:=OX (d:=AA.d) hs';have:=I i a v J;omega
 have b:∀i,i<L.length->(BG (L.getD i AA.d).c.x (L.getD i AA.d).c.y (L.getD i AA.d).c.q=0/\(0<i->BA (Bo (L.getD (i-1) AA.d).c) (Bo (L.getD i AA.d).c)<0))/\(L.getD i AA.d).l≠[]:=by
  intro i a;have:=n i a;unfold Oe at this;simp only[M6,Bool.and_eq_false_iff,Bool.not_eq_false',Iz]at this;obtain⟨⟨⟨g1,f⟩,K⟩,_⟩:=this;refine⟨⟨g1,λm=> ?_⟩,λe=>K (by rw[e];rfl)⟩;rw[<-WB];have e:((i:Int)-1).toNat=i-1:=Dz;rw[e]at f;rcases f with f|f
  .exact absurd Dz f
  .omega
 refine⟨hs,UO z B,λi j M N=>c81 (λi m a=>(b i a).1.2 m) j i M N,λs hs'=> ?_,λs hs'=> ?_,o,w,λu m hu=> ?_,λs hs' v k=> ?_,λs hs' e mq he=> ?_⟩
 .obtain⟨i,a,rfl⟩:=OX (d:=AA.d) hs';have g:=(b i a).1.1;have f:=A _ hs';simp only[AD]at f;unfold BG at g;split at g
  .unfold vC;omega
  .cases g
 .obtain⟨i,a,rfl⟩:=OX (d:=AA.d) hs';exact(b i a).2
 .apply Classical.byContradiction;intro O;have:=b7h (AF p.W p.H) (u::BD L) (Lp.2 ⟨O,o⟩) (λx hx=>by
   rcases Jv.1 hx with rfl|hx
   .omega
   .have:=w x hx;omega)
  simp only[Kz]at this;omega
 .have:=K2.1 E s hs';unfold Tb at this;have:=K2.1 (by simpa using this:s.l.any (Ox (Al p r) s.c)=false) v k;simpa[Ox]using this
 .have:=K2.1 F s hs';unfold Tq at this;have:=K2.1 (by simpa using this:(List.range 3).any (RQ s.c)=false) e.toNat (Kk.2 Dz)
  have P:((e.toNat:Nat):Int)=e:=Dz;simpa[RQ,P]using this
def Rx(h:List Int)(q:Int×Nat):List Int:=h.set q.1.toNat (q.2:Int)
def TB(L:List Stk):List (Int×Nat):=L.flatMap λs=>s.l.zipIdx
def IY(L:List Stk)(n:Nat):List Int:=(TB L).foldl Rx (List.replicate n 0)
theorem b9p:∀(l:List (Int×Nat)) (h:List Int),(l.foldl Rx h).length=h.length
 | [],_=>rfl
 |q::l,h=>by rw[Mk,b9p l];simp[Rx]
theorem b6a(L:List Stk)(n:Nat):(IY L n).length=n:=by simp[IY,b9p]
theorem b7x:∀(l:List (Int×Nat)) (h:List Int) (v:Int),0<=v->(∀q∈l,0<=q.1/\q.1≠v)->(l.foldl Rx h).getD v.toNat 0=h.getD v.toNat 0
 | [],_,_,_,_=>rfl
 |q::l,h,v,b,a=>by rw[Mk,b7x l _ v b (λx hx=>a x Ej)];have:=a q E2;have c:q.1.toNat≠v.toNat:=Dz;simp[Rx,Jz c]
theorem c8h:∀(l:List (Int×Nat)) (h:List Int),(l.map (·.1)).Nodup->(∀q∈l,0<=q.1/\q.1<h.length)->∀q∈l,(l.foldl Rx h).getD q.1.toNat 0=q.2
 | [],_,_,_,q,a=>by simp at a
 |x::l,h,b,c,q,a=>by
  rw[Mk];rw[L4,Lp]at b;rcases Jv.1 a with rfl|a
  .have hx:=c q E2;rw[b7x l _ q.1 hx.1 (λy hy=>⟨(c y Fi).1,λe=>b.1 (Jx.2 ⟨y,hy,e⟩)⟩)];have:q.1.toNat<h.length:=Dz;simp[Rx,this]
  .exact c8h l _ b.2 (λy hy=>by have:=c y Fi;simpa[Rx]using this) q a
theorem c2w(L:List Stk):(TB L).map (·.1)=BD L:=by unfold TB BD;rw[List.map_flatMap];congr 1;funext s;simp
section
variable{p:Pt}{r:Mv}{L:List Stk}
theorem g1t(S:SkOK p r L){s:Stk}(hs:s∈L){k:Nat}(a:k<s.l.length):(IY L (AF p.W p.H)).getD (s.l.getD k 0).toNat 0=k:=by
 have hN:=CG S.hs;have b:(s.l.getD k 0,k)∈TB L:=by refine List.mem_flatMap.2 ⟨s,hs,?_⟩;rw[List.mem_zipIdx_iff_getElem?];simp[a]
 have:=c8h (TB L) (List.replicate (AF p.W p.H) 0) (by rw[c2w];exact S.nd) (λq c=>by
  have d:q.1∈BD L:=by rw[<-c2w];exact Jx.2 ⟨q,c,rfl⟩
  have:=S.rg _ d;simp;omega) _ b
 exact this
theorem Wn(S:SkOK p r L){u:Int}(b:0<=u)(h:u<4*p.W*p.H):∃i k,i<L.length/\k<(L.getD i AA.d).l.length/\(L.getD i AA.d).l.getD k 0=u/\(Al p r).getD u.toNat CJ.d=(L.getD i AA.d).c:=by obtain⟨s,hs,a⟩:=List.mem_flatMap.1 (S.all u b h);obtain⟨i,f,rfl⟩:=OX (d:=AA.d) hs;obtain⟨k,g,e⟩:=OX (d:=(0:Int)) a;exact⟨i,k,f,g,e,S.im _ hs _ a⟩
theorem f6s(S:SkOK p r L){u v:Int}(c:0<=u/\u<4*p.W*p.H)(e:0<=v/\v<4*p.W*p.H)(hi:(Al p r).getD u.toNat CJ.d=(Al p r).getD v.toNat CJ.d)
 (hh:(IY L (AF p.W p.H)).getD u.toNat 0=(IY L (AF p.W p.H)).getD v.toNat 0):u=v:=by
 obtain⟨i,k,a,l,f,c1⟩:=Wn S c.1 c.2;obtain⟨j,m,b,n,g,o⟩:=Wn S e.1 e.2;rw[c1,o]at hi;have q:i=j:=by
  rcases My i j with h|h|h
  .have:=S.lt i j h b;rw[hi,UR]at this;omega
  .exact h
  .have:=S.lt j i h a;rw[hi,UR]at this;omega
 subst q;have s:=g1t S (DP (d:=AA.d) a) l;have t:=g1t S (DP (d:=AA.d) a) n;rw[f]at s;rw[g]at t;have:k=m:=Dz;subst this;rw[<-f,<-g]
theorem g12{m:Mv}{c:Cl}{e:Int}(a:vM m)(b:(-300<=c.x/\c.x<=300)/\(-300<=c.y/\c.y<=300)/\0<=c.q/\c.q<=3)(f:0<=e/\e<3):∃d,(0<=d/\d<3)/\EA m (AO c e)=AO (EA m c) d:=by
 have hb:=NT b.2.2 f;rw[JR a Dz,JR a Dz];obtain⟨X,Y,Q⟩:=c;simp only at b;refine⟨if e=0 then 0 else if m.t=0\/m.t=2\/m.t=5\/m.t=7 then e else 3-e,by split<;>(try split)<;>omega,?_⟩;rcases ET b.2.2 with rfl|rfl|rfl|rfl<;>rcases HI f with rfl|rfl|rfl<;>rcases GJ a with h|h|h|h|h|h|h|h<;>rw[h]<;>
  (simp[AO,sq,tq,EP,ER,EY,tb];try omega)
theorem b77{c:Cl}{e a:Int}(b:0<=c.q/\c.q<=3)(d:0<=e/\e<3)(f:0<=a/\a<3)(h:AO c e=AO c a):e=a:=by obtain⟨X,Y,Q⟩:=c;simp only at b;rcases ET b with rfl|rfl|rfl|rfl<;>rcases HI d with rfl|rfl|rfl<;>rcases HI f with rfl|rfl|rfl<;>first|rfl|(exfalso;revert h;simp[AO,EP,ER,EY,tb])
theorem c35{c:Cl}{e:Int}(a:0<=c.q/\c.q<=3)(b:0<=e/\e<3):AO c e≠c:=by obtain⟨X,Y,Q⟩:=c;simp only at a;rcases ET a with rfl|rfl|rfl|rfl<;>rcases HI b with rfl|rfl|rfl<;>(intro h;revert h;simp[AO,EP,ER,EY,tb])
def DA(p:Pt)(r:Mv)(u:Int):Cl:=(Al p r).getD u.toNat CJ.d
def AL(p:Pt)(r:Mv)(u:Int):Mv:=(Bl p r).getD u.toNat AG.d
def GR(p:Pt)(r:Mv)(u e:Int):Cl:=EA (AL p r u) (AO (AK p.W p.H u) e)
theorem XX(hs:AV p.W p.H=0){u:Int}(a:0<=u)(h:u<4*p.W*p.H):(-300<=(AK p.W p.H u).x/\(AK p.W p.H u).x<=300)/\(-300<=(AK p.W p.H u).y/\(AK p.W p.H u).y<=300)/\0<=(AK p.W p.H u).q/\(AK p.W p.H u).q<=3:=by have:=Qh hs a h;omega
theorem VC(S:SkOK p r L){u:Int}(h0:0<=u)(h:u<4*p.W*p.H):DA p r u=EA (AL p r u) (AK p.W p.H u)/\vM (AL p r u)/\vC (DA p r u):=by have hN:=CG S.hs;have a:=S.P.im u.toNat Dz;have e:((u.toNat:Nat):Int)=u:=Dz;rw[e]at a;exact⟨a.1,S.P.vm _ Dz,a.2⟩
theorem b6d(S:SkOK p r L){u e:Int}(f:0<=u)(h:u<4*p.W*p.H)(m:0<=e/\e<3):vC (GR p r u e)/\GR p r u e≠DA p r u/\∃a,(0<=a/\a<3)/\GR p r u e=AO (DA p r u) a:=by
 obtain⟨g1,n,l⟩:=VC S f h;obtain⟨a,c,o⟩:=g12 n (XX S.hs f h) m;have g:GR p r u e=AO (DA p r u) a:=by rw[g1];exact o
 obtain⟨i,k,s,hk,hu,t⟩:=Wn S f h;have b:=S.nb _ (DP (d:=AA.d) s) a c.1 c.2;rw[<-t]at b;refine⟨?_,?_,a,c,g⟩
 .rw[g];have hb:=NT l.2.2 c;unfold FU at b;split at b
  .split at b
   .rename_i j;unfold BG at j;split at j
    .rename_i v;unfold vC;have:(AO (DA p r u) a).x=EP (DA p r u).q a+(DA p r u).x:=rfl;have:(AO (DA p r u) a).y=ER (DA p r u).q a+(DA p r u).y:=rfl;have h7: -4096<=EP (DA p r u).q a+(DA p r u).x/\EP (DA p r u).q a+(DA p r u).x<=4096/\ -4096<=ER (DA p r u).q a+(DA p r u).y/\ER (DA p r u).q a+(DA p r u).y<=4096/\EY (DA p r u).q a<=3:=v;omega
    .cases j
   .cases b
  .cases b
 .rw[g];exact c35 l.2.2 c
theorem g2w(S:SkOK p r L){u e a:Int}(b:0<=u)(h:u<4*p.W*p.H)(d:0<=e/\e<3)(f:0<=a/\a<3)(g:GR p r u e=GR p r u a):e=a:=by obtain⟨g1,i,g3⟩:=VC S b h;have hc:=LZ S.hs b h;have c:=XX S.hs b h;have b1:=NT c.2.2 d;have b2:=NT c.2.2 f;exact b77 c.2.2 d f (d30 i Ga Ga g)
end
def CW(p:Pt)(r:Mv)(L:List Stk):Bd:=⟨p,Bl p r,Al p r,IY L (AF p.W p.H)⟩
def FL(b:Bd):Nat->List Sm
 |0=>[]
 |k+1=>Ho b ((k/3:Nat):Int) ((k%3:Nat):Int) (FL b k)
def DQ(s:Sm)(d:Int):Cl:=if d=0 then s.a else s.b
def QU(s:Sm)(d:Int):Cl:=if d=0 then s.b else s.a
def AW(p:Pt)(u:Int):Prop:=0<=u/\u<4*p.W*p.H
def Wc(p:Pt)(r:Mv)(x y:Int)(c:Cl):Prop:=∃e,(0<=e/\e<3)/\GR p r x e=c/\AR p.W p.H x e=0/\y=AE p.W p.H x e
def PsOK(p:Pt)(r:Mv)(s:Sm)(x:Pa):Prop:=(AW p x.a/\AW p x.b)/\(DA p r x.a=s.a/\DA p r x.b=s.b)/\Wc p r x.a x.b s.b/\Wc p r x.b x.a s.a
def YK(p:Pt)(r:Mv)(s:Sm)(x:Lo):Prop:=(x.s=0\/x.s=1)/\(AW p x.a/\AW p x.b)/\(DA p r x.a=DQ s x.s/\DA p r x.b=DQ s x.s)/\Wc p r x.a x.b (QU s x.s)/\Wc p r x.b x.a (QU s x.s)
structure SmOK (p:Pt) (r:Mv) (s:Sm):Prop where
 ab:BA (Bo s.a) (Bo s.b)<0
 va:vC s.a
 vb:vC s.b
 ps:∀x∈s.ps,PsOK p r s x
 ls:∀x∈s.ls,YK p r s x
 en:∀x∈s.en,AW p x
section
variable{p:Pt}{r:Mv}{L:List Stk}
theorem imS_of(u:Int):FM (CW p r L) u=DA p r u:=rfl
theorem g2d(S:SkOK p r L){u e:Int}(a:AW p u)(b:0<=e/\e<3):GK (CW p r L) u e=GR p r u e:=by
 obtain⟨g1,g,g3⟩:=VC S a.1 a.2;obtain⟨i,_,_⟩:=b6d S a.1 a.2 b;have j:=f7w S.hs a.1 a.2 b;have c:FU (BV p.W p.H u) (BW p.W p.H u) (BZ p.W p.H u) e=0:=j;have k:IC (BV p.W p.H u) (BW p.W p.H u) (BZ p.W p.H u) e=(AO (AK p.W p.H u) e).x:=by simp[IC,c,AO,AK]
 have l:IH (BV p.W p.H u) (BW p.W p.H u) (BZ p.W p.H u) e=(AO (AK p.W p.H u) e).y:=by simp[IH,c,AO,AK]
 have m:HJ (BV p.W p.H u) (BW p.W p.H u) (BZ p.W p.H u) e=(AO (AK p.W p.H u) e).q:=by simp[HJ,c,AO,AK]
 have n:=XX S.hs a.1 a.2;have hb:=NT n.2.2 b;have o:BG (AO (AK p.W p.H u) e).x (AO (AK p.W p.H u) e).y (AO (AK p.W p.H u) e).q=0:=Gy;have ed:BG (GR p r u e).x (GR p r u e).y (GR p r u e).q=0:=by unfold vC at i;unfold BG;rw[if_pos];omega
 have em:HM (AL p r u).t (AL p r u).x (AL p r u).y (AO (AK p.W p.H u) e).x (AO (AK p.W p.H u) e).y (AO (AK p.W p.H u) e).q=0:=by unfold HM;rw[Ji ⟨g.2,o⟩,Ji];exact ed
 show (⟨keep _ _,keep _ _,keep _ _⟩:Cl)=_;simp only[CW];rw[k,l,m];have f:HM ((Bl p r).getD u.toNat AG.d).t ((Bl p r).getD u.toNat AG.d).x ((Bl p r).getD u.toNat AG.d).y (AO (AK p.W p.H u) e).x (AO (AK p.W p.H u) e).y (AO (AK p.W p.H u) e).q=0:=em;simp only[keep,f,L1];rfl
theorem f9u{a b:Cl}(h:a≠b):BA (Bo a) (Bo b)<0\/BA (Bo b) (Bo a)<0:=by
 have:=KQ (Bo a) (Bo b);by_cases e:BA (Bo a) (Bo b)=0
 .exact absurd (b9y (Pu _ _ e)) h
 .omega
theorem lohi{x y:Cl}(h:x≠y):BA (Bo (PK x y)) (Bo (Oz x y))<0/\((PK x y=x/\Oz x y=y)\/(PK x y=y/\Oz x y=x)):=by
 unfold PK Oz;rw[WB];have:=KQ (Bo x) (Bo y);rcases f9u h with a|a
 .rw[Jj Dz,Jj Dz];exact⟨a,.inl ⟨rfl,rfl⟩⟩
 .rw[Ji Dz,Ji Dz];exact⟨a,.inr ⟨rfl,rfl⟩⟩
theorem c44{s t:Sm}(h:CZ s=CZ t):s.a=t.a/\s.b=t.b:=by simp only[CZ,J9]at h;exact⟨Cl.ext' h.1 h.2.1 h.2.2.1,Cl.ext' h.2.2.2.1 h.2.2.2.2.1 h.2.2.2.2.2⟩
theorem c0h{S:List Sm}{q:List Int}(h:EE S q=true):CZ (S.getD (EC S q) BM)=q:=by have a:=Oh h;have:=List.findIdx_getElem (p:=λs=>decide (CZ s=q)) (xs:=S) (w:=a);rw[Jg,Jh a];unfold EC;simpa using this
theorem c1y(S:SkOK p r L){u e:Int}(a:AW p u)(b:0<=e/\e<3)(c:AR p.W p.H u e=0)(k:AZ p u e=0):
 AW p (AE p.W p.H u e)/\DA p r (AE p.W p.H u e)=GR p r u e/\GR p r (AE p.W p.H u e) e=DA p r u/\AR p.W p.H (AE p.W p.H u e) e=0/\AE p.W p.H (AE p.W p.H u e) e=u:=by
 have hN:=CG S.hs;obtain⟨d,g⟩:=GU S.hs a.1 a.2 b c;have h:=Rh S.hs a.1 a.2 b c;have f:((u.toNat:Nat):Int)=u:=by have:=a.1;omega
 have i:=S.P.pass u.toNat e (by have:=a.1;have:=a.2;omega) b (by rw[f];exact c) (by rw[f];exact k);rw[f]at i;have j:AL p r (AE p.W p.H u e)=AL p r u:=i;have l:=(VC S d.1 d.2).1;have m:=(VC S a.1 a.2).1;refine⟨d,?_,?_,h.1,h.2⟩
 .rw[l,j,g];rfl
 .unfold GR;rw[j,g,Wf (XX S.hs a.1 a.2).2.2 b,m]
theorem c2q(S:SkOK p r L){u e:Int}(a:AW p u)(b:0<=e/\e<3)(d:AR p.W p.H u e=0)(i:AZ p u e≠0):
 AW p (AE p.W p.H u e)/\DA p r (AE p.W p.H u e)=DA p r u/\GR p r (AE p.W p.H u e) e=GR p r u e/\AR p.W p.H (AE p.W p.H u e) e=0/\AE p.W p.H (AE p.W p.H u e) e=u:=by
 have hN:=CG S.hs;obtain⟨j,g⟩:=GU S.hs a.1 a.2 b d;have h:=Rh S.hs a.1 a.2 b d;have f:((u.toNat:Nat):Int)=u:=by have:=a.1;omega
 have c:=S.P.loop u.toNat e (by have:=a.1;have:=a.2;omega) b (by rw[f];exact d) (by rw[f];exact i);rw[f]at c;obtain⟨c,k⟩:=c;refine⟨j,c,?_,h.1,h.2⟩;show EA (AL p r (AE p.W p.H u e)) (AO (AK p.W p.H (AE p.W p.H u e)) e)=EA (AL p r u) (AO (AK p.W p.H u) e);rw[g,Wf (XX S.hs a.1 a.2).2.2 b,<-g];exact k
theorem add_ok(S:SkOK p r L){u e:Int}(g:AW p u)(f:0<=e/\e<3){s:Sm}(h:SmOK p r s)(z:(s.a=DA p r u/\s.b=GR p r u e)\/(s.a=GR p r u e/\s.b=DA p r u)):SmOK p r (JX (CW p r L) u e s):=by
 have A:=(b6d S g.1 g.2 f).2.1;unfold JX;show SmOK p r (if AR p.W p.H u e=0 then _ else _);split;rotate_left
 .exact⟨h.ab,h.va,h.vb,h.ps,h.ls,λx hx=>by
   rcases K6.1 hx with hx|hx
   .exact h.en x hx
   .rw[Kb.1 hx];exact g⟩
 rename_i i;show SmOK p r (if AE p.W p.H u e<u then _ else _);split
 .exact h
 rename_i b6;show SmOK p r (if AZ p u e=0 then _ else _);split
 .rename_i y;obtain⟨g1,j,k,l,m⟩:=c1y S g f i y;refine⟨h.ab,h.va,h.vb,λx hx=> ?_,h.ls,h.en⟩;rcases K6.1 hx with hx|hx
  .exact h.ps x hx
  .rw[Kb]at hx;have hx:x=if DA p r u=s.b then⟨AE p.W p.H u e,u⟩else⟨u,AE p.W p.H u e⟩:=hx;rcases z with⟨c1,c⟩|⟨c1,c⟩
   .rw[Jj (by rw[c];exact λq=>A q.symm)]at hx;subst hx;exact⟨⟨g,g1⟩,⟨c1.symm,j.trans c.symm⟩,⟨e,f,c.symm,i,rfl⟩,⟨e,f,k.trans c1.symm,l,m.symm⟩⟩
   .rw[Ji c.symm]at hx;subst hx;exact⟨⟨g1,g⟩,⟨j.trans c1.symm,c.symm⟩,⟨e,f,k.trans c.symm,l,m.symm⟩,⟨e,f,c1.symm,i,rfl⟩⟩
 .rename_i y;obtain⟨g1,j,k,l,m⟩:=c2q S g f i y;refine⟨h.ab,h.va,h.vb,h.ps,λx hx=> ?_,h.en⟩;rcases K6.1 hx with hx|hx
  .exact h.ls x hx
  .rw[Kb]at hx;have n:∀d:Int,(d=0\/d=1)->DQ s d=DA p r u->QU s d=GR p r u e->YK p r s ⟨d,u,AE p.W p.H u e⟩/\YK p r s ⟨d,AE p.W p.H u e,u⟩:=λd B v w=>
    ⟨⟨B,⟨g,g1⟩,⟨v.symm,j.trans v.symm⟩,⟨e,f,w.symm,i,rfl⟩,⟨e,f,k.trans w.symm,l,m.symm⟩⟩,
     ⟨B,⟨g1,g⟩,⟨j.trans v.symm,v.symm⟩,⟨e,f,k.trans w.symm,l,m.symm⟩,⟨e,f,w.symm,i,rfl⟩⟩⟩
   have hx:x=⟨if DA p r u=s.b then 1 else 0,if(CW p r L).ht.getD u.toNat 0<(CW p r L).ht.getD (AE p.W p.H u e).toNat 0 then u else AE p.W p.H u e,if(CW p r L).ht.getD u.toNat 0<(CW p r L).ht.getD (AE p.W p.H u e).toNat 0 then AE p.W p.H u e else u⟩:=hx;have o:YK p r s ⟨if DA p r u=s.b then 1 else 0,u,AE p.W p.H u e⟩/\YK p r s ⟨if DA p r u=s.b then 1 else 0,AE p.W p.H u e,u⟩:=by
    rcases z with⟨c1,c⟩|⟨c1,c⟩
    .rw[Jj (by rw[c];exact λq=>A q.symm)];exact n 0 (.inl rfl) (by simp[DQ,c1]) (by simp[QU,c])
    .rw[Ji c.symm];exact n 1 (.inr rfl) (by simp[DQ,c]) (by simp[QU,c1])
   rcases Classical.em ((CW p r L).ht.getD u.toNat 0<(CW p r L).ht.getD (AE p.W p.H u e).toNat 0)with t|t
   .rw[Ji t,Ji t]at hx;rw[hx];exact o.1
   .rw[Jj t,Jj t]at hx;rw[hx];exact o.2
theorem at_ok(S:SkOK p r L){u e:Int}(f:AW p u)(i:0<=e/\e<3){T:List Sm}(h:∀s∈T,SmOK p r s):(∀s∈EK T (DA p r u) (GR p r u e),SmOK p r s)/\
 ∀s,CZ s=KO (DA p r u) (GR p r u e)->(s.a=DA p r u/\s.b=GR p r u e)\/(s.a=GR p r u e/\s.b=DA p r u):=by
 have l:=(b6d S f.1 f.2 i).2.1;have g:=lohi (Ne.symm l);have j:=(VC S f.1 f.2).2.2;have k:=(b6d S f.1 f.2 i).1;refine⟨λs hs=> ?_,λs hs=> ?_⟩
 .unfold EK at hs;split at hs
  .exact h s hs
  .rcases K6.1 hs with hs|hs
   .exact h s hs
   .rw[Kb.1 hs];refine⟨g.1,?_,?_,λx hx=>by simp at hx,λx hx=>by simp at hx,λx hx=>by simp at hx⟩
    .rcases g.2 with⟨c,d⟩|⟨c,d⟩
     .show vC (PK _ _);rw[c];exact j
     .show vC (PK _ _);rw[c];exact k
    .rcases g.2 with⟨c,d⟩|⟨c,d⟩
     .show vC (Oz _ _);rw[d];exact k
     .show vC (Oz _ _);rw[d];exact j
 .obtain⟨c,d⟩:=c44 (t:=⟨PK (DA p r u) (GR p r u e),Oz (DA p r u) (GR p r u e),[],[],[]⟩) hs;rw[c,d];exact g.2
theorem mem_set{α:Type}{l:List α}{i:Nat}{x y:α}(h:y∈l.set i x):y=x\/y∈l:=by
 rcases Mn h with h|h
 .exact .inr h
 .exact .inl h
theorem g04(S:SkOK p r L){u e:Int}(a:AW p u)(b:0<=e/\e<3){T:List Sm}(h:∀s∈T,SmOK p r s):∀s∈Ho (CW p r L) u e T,SmOK p r s:=by
 intro s hs;unfold Ho at hs;rw[imS_of,g2d S a b]at hs;obtain⟨c,f⟩:=at_ok S a b h;have d:=WZ T (DA p r u) (GR p r u e);have g:=c0h d;rcases mem_set hs with rfl|hs
 .exact add_ok S a b (c _ (DP (Oh d))) (f _ g)
 .exact c s hs
theorem Ye(S:SkOK p r L):∀k,k<=3*AF p.W p.H->∀s∈FL (CW p r L) k,SmOK p r s
 |0,_,s,hs=>by simp[FL]at hs
 |k+1,hk,s,hs=>by have hN:=CG S.hs;exact g04 S (u:=((k/3:Nat):Int)) (e:=((k%3:Nat):Int)) ⟨Dz,Dz⟩ ⟨Dz,Dz⟩ (Ye S k Dz) s hs
theorem d42(S:SkOK p r L){x y z:Int}{c:Cl}(hx:AW p x)(a:Wc p r x y c)(b:Wc p r x z c):y=z:=by obtain⟨e,d,o1,_,rfl⟩:=a;obtain⟨e',f,o2,_,rfl⟩:=b;rw[g2w S hx.1 hx.2 d f (o1.trans o2.symm)]
theorem ps_inj(S:SkOK p r L){s:Sm}(h:SmOK p r s):∀x∈s.ps,∀y∈s.ps,PY (IY L (AF p.W p.H)) x=PY (IY L (AF p.W p.H)) y->x=y:=by intro x hx y g e;obtain⟨⟨c,a2⟩,⟨i,i2⟩,g1,_⟩:=h.ps x hx;obtain⟨⟨j,b2⟩,⟨k,j2⟩,d,_⟩:=h.ps y g;simp only[PY,J9]at e;have b:x.a=y.a:=f6s S c j (show DA p r x.a=DA p r y.a by rw[i,k]) e;rw[<-b]at d;have f:=d42 S c g1 d;cases x;cases y;simp only at b f;rw[b,f]
theorem ls_inj(S:SkOK p r L){s:Sm}(h:SmOK p r s):∀x∈s.ls,∀y∈s.ls,QP (IY L (AF p.W p.H)) x=QP (IY L (AF p.W p.H)) y->x=y:=by intro x hx y i e;obtain⟨_,⟨d,a2⟩,⟨j,i2⟩,g1,_⟩:=h.ls x hx;obtain⟨_,⟨k,b2⟩,⟨l,j2⟩,f,_⟩:=h.ls y i;simp only[QP,J9]at e;obtain⟨b,e⟩:=e;have c:x.a=y.a:=f6s S d k (show DA p r x.a=DA p r y.a by rw[j,l,b]) e;rw[<-c,<-b]at f;have g:=d42 S d g1 f;cases x;cases y;simp only at c g b;rw[c,g,b]
theorem d88(T:List Sm)(x y:Cl):(EK T x y).length<=T.length+1:=by unfold EK;split<;>simp
def Ru(s:Sm)(k:Nat):Prop:=s.ps.length<=k/\s.ls.length<=k/\s.en.length<=k
theorem f0y{b:Bd}{u e:Int}{s:Sm}{k:Nat}(h:Ru s k):Ru (JX b u e s) (k+1):=by
 unfold Ru at*;unfold JX;repeat' split
 all_goals(try simp only[J4])
 all_goals omega
theorem Uq(b:Bd):∀k,(FL b k).length<=k/\∀s∈FL b k,Ru s k
 |0=>⟨Jp _,λs hs=>by simp[FL]at hs⟩
 |k+1=>by
  obtain⟨h1,a⟩:=Uq b k;have c:∀s∈EK (FL b k) (FM b ((k/3:Nat):Int)) (GK b ((k/3:Nat):Int) ((k%3:Nat):Int)),Ru s k:=by
   intro s hs;unfold EK at hs;split at hs
   .exact a s hs
   .rcases K6.1 hs with hs|hs
    .exact a s hs
    .rw[Kb.1 hs];exact⟨Jw _,Jw _,Jw _⟩
  refine⟨?_,λs hs=> ?_⟩
  .show (Ho _ _ _ _).length<=_;rw[c82];have:=d88 (FL b k) (FM b ((k/3:Nat):Int)) (GK b ((k/3:Nat):Int) ((k%3:Nat):Int));omega
  .have hs:s∈Ho b ((k/3:Nat):Int) ((k%3:Nat):Int) (FL b k):=hs;unfold Ho at hs;rcases mem_set hs with rfl|hs
   .exact f0y (c _ (DP (Oh (WZ _ _ _))))
   .have:=c s hs;unfold Ru at*;omega
theorem d6m(S:SkOK p r L){s:Sm}(h:SmOK p r s)(b:Ru s 100000):d15 (CW p r L) s:=by
 have hN:=CG S.hs;refine⟨b,⟨λx hx=> ?_,λx hx=> ?_⟩,ps_inj S h,ls_inj S h⟩
 .have:=(h.ps x hx).1.1;unfold AW at this;show 0<=x.a/\x.a<((IY L (AF p.W p.H)).length:Int);rw[b6a];omega
 .have:=(h.ls x hx).2.1.1;unfold AW at this;show 0<=x.a/\x.a<((IY L (AF p.W p.H)).length:Int);rw[b6a];omega
end
section
open Go.Sort Go.Proofs Go.Shelf
def XU:AH
 | [.agg [.int .i64 a,.int .i64 b,.int .u8 c,.int .i64 d,.int .i64 e,.int .u8 f],.agg [.int .i64 i,.int .i64 j,.int .u8 g,.int .i64 k,.int .i64 l,.int .u8 h]]=>some ((AD .u8 c/\AD .u8 f)/\AD .u8 g/\AD .u8 h,.int .i64 (JZ [GM a b c i j g,GM d e f k l h]))
 |_=>none
def FOf1:Fam:=⟨(Int×Int×Int×Int×Int×Int)×Int×Int×Int×Int×Int×Int,λ((a,b,c,d,e,f),i,j,g,k,l,h)=>[.agg [.int .i64 a,.int .i64 b,.int .u8 c,.int .i64 d,.int .i64 e,.int .u8 f],.agg [.int .i64 i,.int .i64 j,.int .u8 g,.int .i64 k,.int .i64 l,.int .u8 h]],
 λ((_,_,c,_,_,f),_,_,g,_,_,h)=>(AD .u8 c/\AD .u8 f)/\AD .u8 g/\AD .u8 h,λ((a,b,c,d,e,f),i,j,g,k,l,h)=>.int .i64 (JZ [GM a b c i j g,GM d e f k l h])⟩
theorem pOf1:PS 112 XU:=by
 refine con [(69,Sx),(37,VD)] (by simpa using⟨b14,pOrL⟩) FOf1 (λ_ _=>none) XU ?_ ?_ Tryz.func112 E1 E1 E1 ?_
 .intro args pre s h g;unfold XU at h;split at h
  .rename_i a b c d e f l m j n o k;cases h;exact⟨((a,b,c,d,e,f),l,m,j,n,o,k),by simp[FOf1,BK,SV.le2,SV.le1,BH,SV.le0],g,rfl⟩
  .cases h
 .exact Bz
 .rintro⟨⟨a,b,c,d,e,f⟩,l,m,j,n,o,k⟩ g;replace g:(AD .u8 c/\AD .u8 f)/\AD .u8 j/\AD .u8 k:=g;refine X0a _ ?_;(repeat' first|constructor|intro h)<;>refine Lm ?_
  all_goals(first
   |exact⟨g.1.1,g.2.1⟩
   |exact⟨g.1.2,g.2.2⟩
   |rfl
   |exact⟨λi q=>match i,q with
    |0,_=>rfl
    |1,_=>rfl,Dz⟩
   |omega
   |skip)
def Oj(k:Ky):List Int:=Bo k.a++Bo k.b
theorem d7u{x y:Ky}(h:Oj x=Oj y):x=y:=by simp only[Oj,Bo,Lx,Nk,J9]at h;cases x;cases y;simp only at h;rw[Cl.ext' h.2.1 h.1 h.2.2.1,Cl.ext' h.2.2.2.2.1 h.2.2.2.1 h.2.2.2.2.2]
theorem c4d:∀(a b c d:List Int),a.length=b.length->BA (a++c) (b++d)=if BA a b=0 then BA c d else BA a b
 | [],[],c,d,_=>by simp[BA]
 |x::a,y::b,c,d,h=>by
  by_cases e:x=y
  .simp only[Lx,BA,e,L1];exact c4d a b c d E6
  .have f:CC x y≠0:=by unfold CC;split<;>(try split)<;>omega
   simp[BA,e,f]
 | [],_::_,_,_,h=>Ec
 |_::_,[],_,_,h=>Ec
theorem g4k(x y:Ky):JZ [GM x.a.x x.a.y x.a.q y.a.x y.a.y y.a.q,GM x.b.x x.b.y x.b.q y.b.x y.b.y y.b.q]=BA (Oj x) (Oj y):=by
 rw[WB,WB,Oj,Oj,c4d (Bo x.a) (Bo y.a) (Bo x.b) (Bo y.b) rfl];simp only[JZ];split
 .split<;>simp_all
 .rfl
def kyQ(k:Ky):Prop:=AD .u8 k.a.q/\AD .u8 k.b.q
def c0a:KI:=λ_ b n g a=>match a with
 | [.clo f []]=>if f=112/\b=6 then some (HT.is n g/\n<=100000/\(∀x∈HT.lst n g,kyQ x),HT.row (FD Oj (HT.lst n g)),false)else none
 |_=>none
theorem g3y:ES 111 c0a:=by
 refine f0a HT Tryz.sortKey rfl ⟨_,Tryz.func111,E1,E1⟩ (λw=>Tryz.isAgg213 w) (λw=>Tryz.sizeOf213 w) (λ_=>rfl) (λx s hs=> ?_) XU pOf1 (enters_of Tryz.func112 E1 rfl) c0a ?_
 .simp[HT]at hs;rcases hs with rfl|rfl|rfl|rfl|rfl|rfl<;>exact⟨_,_,rfl⟩
 .intro T sz n g rest pre g' r h;unfold c0a at h;split at h;rotate_left
  .cases h
  rename_i f;split at h;rotate_left
  .cases h
  rename_i d;obtain⟨rfl,rfl⟩:=d;cases h;refine⟨rfl,rfl,[],Oj,rfl,λc=>⟨c.1,c.2.1,λx hx y i=> ?_,λx _ y _ e=>d7u e,rfl⟩⟩;refine⟨(AD .u8 x.a.q/\AD .u8 x.b.q)/\AD .u8 y.a.q/\AD .u8 y.b.q,?_,c.2.2 x hx,c.2.2 y i⟩;show XU [.agg [.int .i64 x.a.x,.int .i64 x.a.y,.int .u8 x.a.q,.int .i64 x.b.x,.int .i64 x.b.y,.int .u8 x.b.q],.agg [.int .i64 y.a.x,.int .i64 y.a.y,.int .u8 y.a.q,.int .i64 y.b.x,.int .i64 y.b.y,.int .u8 y.b.q]]=_;simp only[XU,g4k]
def LL(s:Sm):List SV:=[.int .i64 s.a.x,.int .i64 s.a.y,.int .u8 s.a.q,.int .i64 s.b.x,.int .i64 s.b.y,.int .u8 s.b.q,.sl 2 s.ps.length (CK.row s.ps) none,.sl 3 s.ls.length (CB.row s.ls) none,.sl 1 s.en.length (AC.row s.en) none]
def smRd:List SV->Sm
 | [.int _ a,.int _ b,.int _ c,.int _ d,.int _ e,.int _ f,x,y,z]=>⟨⟨a,b,c⟩,⟨d,e,f⟩,match CK.as x with|some (n,f)=>CK.lst n f|none=>[],match CB.as y with|some (n,f)=>CB.lst n f|none=>[],match AC.as z with|some (n,f)=>AC.lst n f|none=>[]⟩
 |_=>BM
theorem f90(s:Sm):smRd (LL s)=s:=by have a:CK.as (.sl 2 s.ps.length (CK.row s.ps) none)=some (s.ps.length,CK.row s.ps):=rfl;have b:CB.as (.sl 3 s.ls.length (CB.row s.ls) none)=some (s.ls.length,CB.row s.ls):=rfl;have c:AC.as (.sl 1 s.en.length (AC.row s.en) none)=some (s.en.length,AC.row s.en):=rfl;simp only[smRd,LL,a,b,c,RT.lst_row]
def GN:RT Sm:=⟨9,LL,smRd,BM,f90⟩
def GT(p:Pt)(r:Mv)(L:List Stk):List Sm:=if EO p r L=0 then
    (FD Oj ((FL (CW p r L) (3*AF p.W p.H)).map MG)).map λk=>MJ (CW p r L) ((FL (CW p r L) (3*AF p.W p.H)).getD (EC (FL (CW p r L) (3*AF p.W p.H)) (CZ (sN k.a k.b))) BM)
 else []
end
def rSeOf(p:Pt)(r:Mv)(L:List Stk):SV:=.tup [.sl 9 (GT p r L).length (GN.row (GT p r L)) none,.int .i64 (EO p r L)]
def f1m:AH
 | [x,y,z]=>match Ri [x,y],LB z with
   |some q,some s=>some (q.1/\s.1/\(∀t∈s.2,AD .u8 t.c.q)/\(BD s.2).length<=100000,rSeOf q.2.1 q.2.2 s.2)
   |_,_=>none
 |_=>none
def FSeOf:Fam:=⟨Pt×Mv×List Stk,λ(p,r,L)=>[KC p,Pb r,EW L],λ(p,r,L)=>prOK p r/\DV L,λ(p,r,L)=>rSeOf p r L⟩
def Rr(L:List Stk)(i k:Nat):List (Int×Nat):=TB (L.take i)++((L.getD i AA.d).l.zipIdx).take k
def Mo(L:List Stk)(n i k:Nat):List Int:=(Rr L i k).foldl Rx (List.replicate n 0)
theorem b76(L:List Stk)(n i k:Nat):(Mo L n i k).length=n:=by simp[Mo,b9p]
theorem c8v(L:List Stk)(i:Nat):Rr L i 0=TB (L.take i):=by simp[Rr]
theorem f0r{L:List Stk}{i:Nat}(hi:i<L.length):Rr L i (L.getD i AA.d).l.length=Rr L (i+1) 0:=by
 rw[c8v];have:L.take (i+1)=L.take i++[L.getD i AA.d]:=by rw[Lz];simp[hi]
 rw[this];unfold Rr TB;rw[List.flatMap_append];have e:List.take (L.getD i AA.d).l.length (L.getD i AA.d).l.zipIdx=(L.getD i AA.d).l.zipIdx:=Lq E2;rw[e];simp
theorem f3q{L:List Stk}{n i k:Nat}(a:k<(L.getD i AA.d).l.length):Mo L n i (k+1)=(Mo L n i k).set ((L.getD i AA.d).l.getD k 0).toNat (k:Int):=by
 have:Rr L i (k+1)=Rr L i k++[((L.getD i AA.d).l.getD k 0,k)]:=by unfold Rr;rw[Lz,<-Mx];congr 1;rw[List.getElem?_zipIdx,Jh a,Jg (l:=(L.getD i AA.d).l),Jh a];simp
 unfold Mo;rw[this,List.foldl_append];rfl
theorem g3a(L:List Stk)(n:Nat):Mo L n L.length 0=IY L n:=by unfold Mo IY;rw[c8v,Lq (Jp _)]
def d8n(p:Pt)(r:Mv)(b:List Int)(S:List Sm)(ks:SV)(a:List Blk):List Blk:=.cells 34 [.int .i64 p.W,.int .i64 p.H,.sl 3 p.l.length (Eo p.l) none]::.cells 36 [.int .u8 r.t,.int .i64 r.x,.int .i64 r.y]::.row 3 1 b.length (AC.row b) none::
 .pmap (.ints [.i64,.i64,.u8,.i64,.i64,.u8]) 5 (EE S) (EC S)::
 .cells 208 [.int .i64 p.W,.int .i64 p.H,.sl 3 p.l.length (Eo p.l) none,.sl 3 (Bl p r).length (AG.row (Bl p r)) none,.sl 3 (Al p r).length (CJ.row (Al p r)) none,.osl 2,.omp 3,ks]::
 .fam 135 [(262,2),(138,3),(3,1)] S.length none (λi=>KU (S.getD i BM))::a
theorem f0f{L:List Stk}{n i:Nat}(hi:i<L.length):Mo L n i (L.getD i AA.d).l.length=Mo L n (i+1) 0:=by unfold Mo;rw[f0r hi]
theorem c6a{l:List Int}{m:Nat}{x:Int}(h:m<l.length)(j:Nat):EN (decide (j=m)) [SV.int .i64 x] (AC.row l j)=AC.row (l.set m x) j:=by
 by_cases e:j=m
 .rw[K3 e,b19 AC h e];rfl
 .rw[K4 e,b3v AC e];rfl
theorem d7v(S:List Sm):HT.lst S.length (KX S)=S.map MG:=by have h:KX S=HT.row (S.map MG):=Nn (d9d S);have:=RT.lst_row HT (S.map MG);rw[h];simpa using this
theorem f1y(s:Sm):CZ (sN (MG s).a (MG s).b)=CZ s:=rfl
theorem c3w(b:Bd):∀k,((FL b k).map CZ).Nodup
 |0=>Nt
 |k+1=>by
  have a:=c3w b k;show ((Ho b _ _ _).map CZ).Nodup;rw[b4i];unfold EK;split
  .exact a
  .rename_i h;rw[Lv];refine Mz.2 ⟨a,E2,λx hx y c e=> ?_⟩;simp only[L4,List.map_nil,Kb]at c;subst e;subst c;apply h;rw[Ug];exact K1.2 ⟨_,hx,by simp[KO]⟩
def Io(b:Bd)(S:List Sm)(K:List Ky):Nat->List Sm
 |0=>S
 |i+1=>(Io b S K i).set (EC (Io b S K i) (CZ (sN (K.getD i HT.d).a (K.getD i HT.d).b))) (MJ b ((Io b S K i).getD (EC (Io b S K i) (CZ (sN (K.getD i HT.d).a (K.getD i HT.d).b))) BM))
def HU(p:Pt)(r:Mv)(L:List Stk):List Sm:=FL (CW p r L) (3*AF p.W p.H)
def EH(p:Pt)(r:Mv)(L:List Stk):List Ky:=FD Oj ((HU p r L).map MG)
section
variable{b:Bd}{S:List Sm}{K:List Ky}
def qK(K:List Ky)(i:Nat):List Int:=CZ (sN (K.getD i HT.d).a (K.getD i HT.d).b)
theorem b5b:∀i,(Io b S K i).map CZ=S.map CZ
 |0=>rfl
 |i+1=>by show ((Io b S K i).set _ _).map CZ=_;rw[b2a _ _ _ (d0t b _),b5b i]
theorem d01(i:Nat):(Io b S K i).length=S.length:=by simpa using Mj List.length (b5b (b:=b) (S:=S) (K:=K) i)
theorem f2r(i:Nat)(q:List Int):EE (Io b S K i) q=EE S q:=by rw[Ug,Ug,b5b]
theorem b35(i:Nat)(q:List Int):EC (Io b S K i) q=EC S q:=by rw[XO,XO,b5b]
theorem b9x(a:∀i,i<K.length->EE S (qK K i)=true)(d:∀i j,i<j->j<K.length->qK K i≠qK K j):∀i j,i<=j->j<K.length->(Io b S K i).getD (EC S (qK K j)) BM=S.getD (EC S (qK K j)) BM
 |0,j,_,_=>rfl
 |i+1,j,h1,c=>by
  show ((Io b S K i).set (EC (Io b S K i) (qK K i)) _).getD _ _=_;have f:=a i Dz;have k:EC (Io b S K i) (qK K i)<(Io b S K i).length:=by rw[b35,d01];exact Oh f
  rw[b1f k,b35,Jj,b9x a d i j Dz c];intro e;have l:=c0h f;have g:=c0h (a j c);rw[e]at g;exact d i j Dz c (l.symm.trans g)
end
theorem d17(b:Bd){u e:Nat}(he:e<3):FL b (3*u+e+1)=Ho b (u:Int) (e:Int) (FL b (3*u+e)):=by show Ho b _ _ _=_;rw[show (3*u+e)/3=u from Dz,show (3*u+e)%3=e from Dz]
section
variable{p:Pt}{r:Mv}{L:List Stk}
theorem f27{k:Ky}:k∈EH p r L↔∃s∈HU p r L,MG s=k:=by unfold EH;rw[Qn,Jx]
theorem WU{i:Nat}(h:i<(EH p r L).length):EE (HU p r L) (qK (EH p r L) i)=true:=by obtain⟨s,hs,e⟩:=f27.1 (DP (d:=HT.d) h);unfold qK EE;rw[<-e];exact K1.2 ⟨s,hs,by simp[f1y]⟩
theorem qK_inj{x y:Ky}(h:CZ (sN x.a x.b)=CZ (sN y.a y.b)):x=y:=by obtain⟨c,d⟩:=c44 h;cases x;cases y;simp only at c d;rw[c,d]
theorem d73{i j:Nat}(d:i<j)(c:j<(EH p r L).length):qK (EH p r L) i≠qK (EH p r L) j:=by
 have f:(EH p r L).Nodup:=by
  have g:((HU p r L).map MG).Nodup:=by
   have:=c3w (CW p r L) (3*AF p.W p.H);have e:((HU p r L).map MG).map (λk=>CZ (sN k.a k.b))=(HU p r L).map CZ:=by rw[M5];rfl
   have c:(((HU p r L).map MG).map (λk=>CZ (sN k.a k.b))).Nodup:=by rw[e];exact this
   exact(L2.1 c).imp (λl e=>l (by rw[e]))
  exact(RZ _ _).nodup_iff.2 g
 intro e;have:=qK_inj e;rw[Jg,Jg,Jh Dz,Jh c]at this;exact(Kx.1 (show List.Pairwise (λx y=>x≠y) _ from f)) i j Dz c d this
theorem g2h(S:SkOK p r L)(a:prOK p r){k u e:Nat}(hk:k<=3*AF p.W p.H)(jx:u<AF p.W p.H)(he:e<3):bdIn (CW p r L) (FL (CW p r L) k) (u:Int) (e:Int):=by
 have hN:=CG S.hs;have hs:=Uq (CW p r L) k;refine⟨a.1,⟨Dz,Dz⟩,⟨Dz,?_,?_,?_⟩,λb=> ?_,c3d a.2.1,λc f=> ?_,Dz,λs h=> ?_⟩
 .show (u:Int)<((Bl p r).length:Int);rw[S.P.pl];omega
 .show (u:Int)<((Al p r).length:Int);rw[S.P.il];omega
 .show (u:Int)<((IY L (AF p.W p.H)).length:Int);rw[b6a];omega
 .have:=(GU S.hs (i:=(u:Int)) (e:=(e:Int)) Dz Dz ⟨Dz,Dz⟩ b).1;show 0<=AE p.W p.H u e/\AE p.W p.H u e<((IY L (AF p.W p.H)).length:Int);rw[b6a];omega
 .obtain⟨i,g,rfl⟩:=OX (d:=CJ.d) (show c∈Al p r from f);have j:i<AF p.W p.H:=by rw[<-S.P.il];exact g
  have:=(S.P.im i j).2.2.2;show 0<=_/\_<=255;omega
 .have:=hs.2 s h;unfold Ru at this;omega
theorem seam_q(S:SkOK p r L){k:Nat}(c:k<=3*AF p.W p.H):∀x∈(FL (CW p r L) k).map MG,kyQ x:=by intro x hx;obtain⟨s,hs,rfl⟩:=Jx.1 hx;have h:=Ye S k c s hs;have d:=h.va.2.2;have e:=h.vb.2.2;exact⟨⟨d.1,by show s.a.q<=255;omega⟩,⟨e.1,by show s.b.q<=255;omega⟩⟩
theorem b52:(EH p r L).length=(HU p r L).length:=by simp[EH,NM]
theorem f62(h:EO p r L=0):GT p r L=(EH p r L).map λk=>MJ (CW p r L) ((HU p r L).getD (EC (HU p r L) (CZ (sN k.a k.b))) BM):=by unfold GT;rw[Ji h];rfl
theorem c5m(h:EO p r L=0){i:Nat}(hi:i<(EH p r L).length):(GT p r L).getD i BM=MJ (CW p r L) ((HU p r L).getD (EC (HU p r L) (qK (EH p r L) i)) BM):=by rw[f62 h,Jg,K9,Jh hi];simp only[Ks,J8,qK,Jh hi]
theorem c0i(h:EO p r L=0):(GT p r L).length=(EH p r L).length:=by rw[f62 h,Kh]
end
def ISeOf:Pt×Mv×List Stk->Nat->Option Inv
 |(p,r,L),8=>some {β:=Nat,ok:=λi=>i<=L.length,st:=λi=>⟨[⟨54,none,.int .i64 i⟩,⟨53,none,.int .i64 L.length⟩,⟨52,none,.sl 4 L.length (AA.row L) none⟩,⟨9,none,.own 4 0⟩],d8n p r (Mo L (AF p.W p.H) i 0) [] (.con (.slice none 0 0)) []⟩,μ:=λi=>L.length-i,sub:=λi=>some fun|11=>some {β:=Nat,ok:=λk=>k<=(L.getD i AA.d).l.length,st:=λk=>⟨[⟨61,none,.int .i64 k⟩,⟨60,none,.int .i64 (L.getD i AA.d).l.length⟩,⟨59,none,.sl 1 (L.getD i AA.d).l.length (AC.row (L.getD i AA.d).l) none⟩,⟨54,none,.int .i64 i⟩,⟨53,none,.int .i64 L.length⟩,⟨52,none,.sl 4 L.length (AA.row L) none⟩,⟨9,none,.own 4 0⟩],d8n p r (Mo L (AF p.W p.H) i k) [] (.con (.slice none 0 0)) []⟩,μ:=λk=>(L.getD i AA.d).l.length-k}|_=>none}
 |(p,r,L),17=>some {β:=Nat,ok:=λu=>u<=AF p.W p.H,st:=λu=>⟨[⟨80,none,.int .i64 u⟩,⟨79,none,.int .i64 (AF p.W p.H)⟩,⟨9,none,.own 4 0⟩],d8n p r (IY L (AF p.W p.H)) (FL (CW p r L) (3*u)) (.osl 6) [.row 213 6 (FL (CW p r L) (3*u)).length (KX (FL (CW p r L) (3*u))) none]⟩,μ:=λu=>AF p.W p.H-u,nl:=[.cell 4 7 213 6],sub:=λu=>some fun|20=>some {β:=Nat,ok:=λe=>e<=3,st:=λe=>⟨[⟨83,none,.int .u8 e⟩,⟨14,none,.int .i64 u⟩,⟨80,none,.int .i64 u⟩,⟨79,none,.int .i64 (AF p.W p.H)⟩,⟨9,none,.own 4 0⟩],d8n p r (IY L (AF p.W p.H)) (FL (CW p r L) (3*u+e)) (.osl 6) [.row 213 6 (FL (CW p r L) (3*u+e)).length (KX (FL (CW p r L) (3*u+e))) none]⟩,μ:=λe=>3-e}|_=>none}
 |(p,r,L),28=>some {β:=Nat,ok:=λi=>i<=(EH p r L).length,st:=λi=>⟨[⟨108,none,.int .i64 i⟩,⟨107,none,.int .i64 (EH p r L).length⟩,⟨106,none,.osl 6⟩,⟨16,none,.osl 7⟩,⟨9,none,.own 4 0⟩],d8n p r (IY L (AF p.W p.H)) (Io (CW p r L) (HU p r L) (EH p r L) i) (.osl 6) [.row 213 6 (EH p r L).length (HT.row (EH p r L)) none,.row 135 9 (EH p r L).length (λj=>LL (upto (λj=>(GT p r L).getD j BM) (λ_=>BM) i j)) none]⟩,μ:=λi=>(EH p r L).length-i}
 |_,_=>none
def smCs(s:Sm):List SV:=[.int .i64 s.a.x,.int .i64 s.a.y,.int .u8 s.a.q,.int .i64 s.b.x,.int .i64 s.b.y,.int .u8 s.b.q,.sl 2 s.ps.length (CK.row s.ps) (some s.ps.length),.sl 3 s.ls.length (CB.row s.ls) (some s.ls.length),.sl 1 s.en.length (AC.row s.en) (some s.en.length)]
theorem g2e{A:Nat->Sm}{B:Nat->Sm}{i:Nat}{s:Sm}(hs:A i=s)(j:Nat):Hl (EN (decide (j=i)) (smCs s) (LL (upto A B i j))) (LL (upto A B (i+1) j)):=by
 by_cases e:j=i
 .subst e;rw[K3 rfl,show upto A B (j+1) j=s by simp[upto,hs]];generalize upto A B j j=t;right;simp[smCs,LL,EN,Sz,Th,SV.lf,HN]
 .rw[K4 e,show upto A B (i+1) j=upto A B i j by unfold upto;by_cases h:j<i;simp[h,show j<i+1 from Dz];simp[h,show¬j<i+1 from Dz]];left;rfl
theorem g39:Hl [.int .i64 0,.int .i64 0,.int .u8 0,.int .i64 0,.int .i64 0,.int .u8 0,.con (.slice none 0 0),.con (.slice none 0 0),.con (.slice none 0 0)] (LL BM):=by right;simp[LL,BM,Th,SV.lf,HN]
theorem pSeOf:PS 55 f1m:=by
 refine LV {l:=[(107,b2h),(108,Wb),(109,c6i),(29,WF)],x:=[(111,c0a)],h:=[(110,c7p),(113,b4z)],c2:=true,gr:=λid=>bif Nat.beq id 4 then [.newFam 3 135 [(262,2),(138,3),(3,1)]]else []} ⟨by simpa using⟨d7q,c8c,g0k,c0b⟩,by simpa using g3y,by simpa using⟨pBMeet,f52⟩⟩ FSeOf ISeOf f1m ?_ ?_ Tryz.func55 E1 E1 E1 ?_
 .intro args pre s h hp;unfold f1m at h;split at h
  .rename_i x y z;split at h
   .rename_i q t w B;cases h;obtain⟨q,p,r⟩:=q;obtain⟨u,L⟩:=t;obtain⟨a1,a2⟩:=c19 w hp.1;obtain⟨b1,b2⟩:=PC B hp.2.1;exact Du
   .cases h
  .cases h
 .exact C1
 .rintro⟨p,r,L⟩ ⟨bm,bv⟩;have hl:=bv.1.1;have n:EO p r L=0->SkOK p r L:=λh=>Xa h bm.2.1 bv.2.1;have I:EO p r L=0->(AF p.W p.H:Int)=4*p.W*p.H/\AF p.W p.H<=1024/\4<=AF p.W p.H:=λh=>CG (n h).hs;have M:EO p r L=0->CM p.W p.H=(AF p.W p.H:Int):=λh=>by rw[(I h).1];simp[CM,(n h).hs]
  have Q:EO p r L≠0->GT p r L=[]:=λh=>by unfold GT;rw[if_neg h]
  refine X0a _ ?_;(repeat' first|constructor|intro h)<;>refine Lm ?_
  all_goals(try simp only[CE,RT.lst_row,b0p,b0n]at*)
  all_goals(first
   |exact Bj
   |exact Bp
   |exact λ_=>Jm
   |rfl
   |(rw[Q E5];rfl)
   |(have:=M E5;have:=I E5;refine⟨Dz,Dz,Rj E1 Dz Dz,Dz⟩)
   |skip)
  have g:EO p r L=0:=E5;have c0:=M g;have n0:=I g;refine⟨(0:Nat),Jw _,?_,?_⟩
  .refine X0a _ ?_;(repeat' first|constructor|intro h)<;>refine Lm ?_
   all_goals(try simp only[]at*)
   all_goals(first
    |exact Ad
    |(rw[b76];omega)
    |exact Af
    |(intro j hj;show [SV.int .i64 0]=AC.sv _;rw[show Mo L (AF p.W p.H) 0 0=List.replicate (AF p.W p.H) 0 from rfl];simp only[Jg,List.getElem?_replicate];split<;>rfl)
    |skip)
  .intro i m;replace m:i<=L.length:=m;have hg:=Tz bv.1 i;have J:i<L.length->∀v∈(L.getD i AA.d).l,0<=v/\v<(AF p.W p.H:Int):=λm v C=>by
    have:=(n g).rg v (List.mem_flatMap.2 ⟨_,DP m,C⟩);omega
   refine X0a _ ?_;(repeat' first|constructor|intro h)<;>refine Lm ?_
   all_goals(try simp only[Ir]at*)
   all_goals(first|omega|skip)
   .have f:i<L.length:=Dz;have J:=J f;refine⟨(0:Nat),Jw _,?_,?_⟩
    .refine X0a _ ?_;(repeat' first|constructor|intro h)<;>refine Lm ?_
     all_goals first|exact Ad|exact Af|skip
    .intro k o;replace o:k<=(L.getD i AA.d).l.length:=o;have C:k<(L.getD i AA.d).l.length->0<=(L.getD i AA.d).l.getD k 0/\(L.getD i AA.d).l.getD k 0<(AF p.W p.H:Int):=λh=>J _ (DP h);have N:=b76 L (AF p.W p.H) i k;refine X0a _ ?_;(repeat' first|constructor|intro h)<;>refine Lm ?_
     all_goals(try simp only[Ir]at*)
     all_goals(first
      |exact Ap
      |(have:=C Dz;show 0<=_/\_<((Mo L (AF p.W p.H) i k).length:Int);rw[N];exact this)
      |(have:=C Dz;show ((L.getD i AA.d).l.getD k 0).toNat<_;rw[N];omega)
      |skip)
     .have F:k<(L.getD i AA.d).l.length:=Dz;have hvv:=C F;refine⟨k+1,by show k+1<=_;omega,Gc,?_⟩;refine X0a _ ?_;(repeat' first|constructor|intro h)<;>refine Lm ?_
      all_goals(first
       |exact Ad
       |(rw[b76,b76])
       |exact Af
       |(intro j hj
         rw[f3q F];have G:((L.getD i AA.d).l.getD k 0).toNat<(Mo L (AF p.W p.H) i k).length:=by rw[b76];omega
         exact c6a G j)
       |skip)
     .have F:k=(L.getD i AA.d).l.length:=Dz;subst F;refine⟨i+1,Eg,Ed,?_⟩;rw[f0f f];refine X0a _ ?_;(repeat' first|constructor|intro h)<;>refine Lm ?_
      all_goals(first
       |exact Ad
       |exact Af
       |skip)
   .have f:i=L.length:=Dz;subst f;refine⟨(0:Nat),Jw _,?_,?_⟩
    .rw[g3a];refine X0a _ ?_;(repeat' first|constructor|intro h)<;>refine Lm ?_
     all_goals first|exact Ad|exact Af|(rw[b6a])|skip
    .intro u O;replace O:u<=AF p.W p.H:=O;refine X0a _ ?_;(repeat' first|constructor|intro h)<;>refine Lm ?_
     all_goals(try simp only[Ir]at*)
     all_goals(first
      |exact Ap
      |skip)
     .have E:u<AF p.W p.H:=Dz;refine⟨(0:Nat),Jw _,?_,?_⟩
      .refine X0a _ ?_;(repeat' first|constructor|intro h)<;>refine Lm ?_
       all_goals first|exact Ad|exact Bc|skip
      .intro e P;replace P:e<=3:=P;refine X0a _ ?_;(repeat' first|constructor|intro h)<;>refine Lm ?_
       all_goals(try simp only[Ir]at*)
       all_goals(first
        |exact A6
        |skip)
       .simp only[CE,RT.lst_row,YE];refine⟨⟨⟨⟨FT _,bm.1.1⟩,RT.is_row AG _,RT.is_row CJ _,RT.is_row AC _⟩,Jm,λ_ _=>Jm,λ_=>Jm,λ_ _=>Jm,λi m=> ?_⟩,g2h (n g) bm Dz E Dz⟩;rw[b4y];exact VK _
       .simp only[CE,RT.lst_row,YE];refine⟨e+1,by show e+1<=3;omega,Gw,?_⟩;have hs':FL (CW p r L) (3*u+(e+1))=Ho (CW p r L) (u:Int) (e:Int) (FL (CW p r L) (3*u+e)):=d17 (CW p r L) Dz;revert hs';generalize FL (CW p r L) (3*u+(e+1))=T;rintro rfl;exact X1c
       .have K:e=3:=Dz;subst K;refine⟨u+1,by show u+1<=_;omega,by show _-(u+1)<_-u;omega,?_⟩;exact X1c
     .have E:u=AF p.W p.H:=Dz;subst E;rw[d7v];have:=(Uq (CW p r L) (3*AF p.W p.H)).1;exact⟨λ_ _=>rfl,Dz,seam_q (n g) (Jp _)⟩
     .have:=(Uq (CW p r L) (3*u)).1;refine⟨Dz,Dz,Rj E1 Dz Dz,Dz⟩
     .have E:u=AF p.W p.H:=Dz;subst E;rw[show FL (CW p r L) (3*AF p.W p.H)=HU p r L from rfl,d7v,<-b52,show FD Oj (List.map MG (HU p r L))=EH p r L from rfl];refine⟨(0:Nat),Jw _,?_,?_⟩
      .refine X0b _ ?_;(repeat' first|constructor|intro h)<;>refine Lm ?_
       all_goals(first
        |exact Ad
        |exact Bc
        |exact A5
        |exact λ_ _=>g39
        |exact b52
        |omega
        |skip)
      .intro i m;replace m:i<=(EH p r L).length:=m;refine X0b _ ?_;(repeat' first|constructor|intro h)<;>refine Lm ?_
       all_goals(try simp only[Ir]at*)
       all_goals(first
        |omega
        |(simp only[AD];have:=@b52 p r L;have:=(Uq (CW p r L) (3*AF p.W p.H)).1;have:(HU p r L).length=(FL (CW p r L) (3*AF p.W p.H)).length:=rfl;omega)
        |(show i<(EH p r L).length;omega)
        |skip)
       .have f:i<(EH p r L).length:=Dz;have o:=WU f;simp only[CE,RT.lst_row,YE];refine⟨⟨⟨⟨FT _,bm.1.1⟩,RT.is_row AG _,RT.is_row CJ _,RT.is_row AC _⟩,RT.is_row HT _,λ_=>Jm,λ_ _=>Jm,λj hj=> ?_⟩,?_,?_,?_⟩
        .rw[b4y];exact VK _
        .show EE (Io (CW p r L) (HU p r L) (EH p r L) i) (qK (EH p r L) i)=true;rw[f2r];exact o
        .show EC (Io (CW p r L) (HU p r L) (EH p r L) i) (qK (EH p r L) i)<(Io (CW p r L) (HU p r L) (EH p r L) i).length;rw[b35,d01];exact Oh o
        .show d15 (CW p r L) ((Io (CW p r L) (HU p r L) (EH p r L) i).getD (EC (Io (CW p r L) (HU p r L) (EH p r L) i) (qK (EH p r L) i)) BM);rw[b35,b9x (λj hj=>WU hj) (λa b w B=>d73 w B) i i (Jp _) f];have G:=DP (d:=BM) (Oh o);have hz:=(Uq (CW p r L) (3*AF p.W p.H)).2 _ G;refine d6m (n g) (Ye (n g) _ (Jp _) _ G) ?_;unfold Ru at*;omega
       .have f:i<(EH p r L).length:=Dz;have o:=WU f;have R:(GT p r L).getD i BM=MJ (CW p r L) ((Io (CW p r L) (HU p r L) (EH p r L) i).getD (EC (Io (CW p r L) (HU p r L) (EH p r L) i) (qK (EH p r L) i)) BM):=by
         rw[c5m g f,b35,b9x (λj hj=>WU hj) (λa b w B=>d73 w B) i i (Jp _) f]
        simp only[CE,RT.lst_row,YE];refine⟨i+1,Eg,Ed,?_⟩;refine X0b _ ?_;(repeat' first|constructor|intro h)<;>refine Lm ?_
        all_goals(first
         |exact Ad
         |exact Bc
         |exact A5
         |exact λj _=>g2e (A:=λj=>(GT p r L).getD j BM) R j
         |omega
         |skip)
       .exact(c0i g).symm
       .intro j hj;left;have:i=(EH p r L).length:=Dz;subst this;show LL (upto _ _ _ j)=LL _;rw[YF _ _ hj];rfl
def asSm:SV->Option (Prop×Sm)
 |.agg [.int .i64 a,.int .i64 b,.int .u8 c,.int .i64 d,.int .i64 e,.int .u8 f,x,y,z]=>match CK.as x,CB.as y,AC.as z with
  |some u,some v,some w=>some (CK.is u.1 u.2/\CB.is v.1 v.2/\AC.is w.1 w.2,⟨⟨a,b,c⟩,⟨d,e,f⟩,CK.lst u.1 u.2,CB.lst v.1 v.2,AC.lst w.1 w.2⟩)
  |_,_,_=>none
 |_=>none
theorem d9i{x:SV}{q:Prop}{s:Sm}(h:asSm x=some (q,s))(g:q):x.le2 (.agg (LL s)):=by
 unfold asSm at h;split at h
 .rename_i a b c d e f x y z;split at h
  .rename_i u v w i j k;cases h;obtain⟨l,m,n⟩:=g;have o:=CK.as_le i l;have r:=CB.as_le j m;have t:=AC.as_le k n;refine⟨E7,E7,E7,E7,E7,E7,o,r,t,Jm⟩
  .cases h
 .cases h
def d85(l:List Int)(g:Bool):List Blk:=[.cells 75 [.sl 1 l.length (AC.row l) none],.cells 4 [.bool g]]
def hSp1:HK:=λa own=>match a,own with
 | [.int .i64 v,.own 0 0,.own 1 0],[.cells b [x],.cells c [.bool g]]=>if b=75/\c=4 then(AC.as x).map λq=>⟨AC.isL q.1 q.2/\q.1<=100000,.int .i64 (CA (AC.lst q.1 q.2) v),d85 (AC.lst q.1 q.2) (g&&decide (0<=CA (AC.lst q.1 q.2) v)),[]⟩else none
 |_,_=>none
def FSp1:FamH:=⟨(Int×List Int)×Bool,λ((v,_),_)=>[.int .i64 v,.own 0 0,.own 1 0],λ((_,l),g)=>d85 l g,λ((_,l),_)=>l.length<=100000,λ((v,l),_)=>.int .i64 (CA l v),λ((v,l),g)=>d85 l (g&&decide (0<=CA l v)),[]⟩
theorem pSp1:HS 166 hSp1:=by
 refine JO {l:=[(167,c05)]} ⟨by simpa using g47,E2,E2⟩ FSp1 (λ_ _=>none) hSp1 ?_ ?_ ?_ Tryz.func166 E1 E1 E1 ?_
 .intro args own r h a;unfold hSp1 at h;split at h
  .rename_i v T1 x T2 g;split at h
   .rename_i b;obtain⟨rfl,rfl⟩:=b;simp only[Jq]at h;obtain⟨⟨n,f⟩,hx,rfl⟩:=h;have c:=AC.as_leL hx a.1;refine⟨((v,AC.lst n f),g),⟨Ea,Ea,Ea,Jm⟩,rfl,⟨⟨Em,c,Jm⟩,⟨Em,E7,Jm⟩,Jm⟩,by show (AC.lst n f).length<=100000;rw[RT.lst_length];exact a.2,rfl,rfl,rfl⟩
   .cases h
  .cases h
 .exact C1
 .intro i;show 2<=2;decide
 .rintro⟨⟨v,l⟩,g⟩ μ a;replace a:l.length<=100000:=a;refine X0a _ ?_;(repeat' first|constructor|intro h)<;>refine Lm ?_
  all_goals(try simp only[RT.lst_row]at*)
  all_goals(first
   |exact⟨RT.isL_row AC _,a⟩
   |exact A2
   |skip)
theorem GF{α:Type}{L:List α}{i:Nat}{d:α}(h:i<L.length):L.take (i+1)=L.take i++[L.getD i d]:=by rw[Lz];simp[h]
theorem f19{α:Type}{R:RT α}{L:List α}{i:Nat}{c:List SV}(h:i<L.length)(a:c=R.sv (L.getD i R.d)):∀j,j<i+1->(if j<i then R.row (L.take i) j else(List.map (λx:Nat×List SV=>x.snd) [(0,c)].reverse).getD (j-i) [])=R.row (L.take (i+1)) j:=by have e:(L.take i).length=i:=Fb;have:=SC (R:=R) (l:=L.take i) (x:=L.getD i R.d) a;rwa[<-GF h,e]at this
def GC(d:Int)(x:Pa):Int:=if d=0 then x.a else x.b
def Ov(s:Sm)(d:Int)(l:List Int):List Int:=s.ps.map λx=>CA l (GC d x)
def QW(l:List Int)(x:Lo):Pa:=⟨min (CA l x.a) (CA l x.b),max (CA l x.a) (CA l x.b)⟩
def IR(d:Int)(L:List Lo):List Lo:=L.filter λx=>decide (x.s=d)
def Tm(s:Sm)(d:Int)(l:List Int):List Pa:=(IR d s.ls).map (QW l)
def Vk(d:Int)(l:List Int)(P:List Pa):Bool:=P.all λx=>decide (0<=CA l (GC d x))
def Uy(l:List Int)(L:List Lo):Bool:=L.all λx=>decide (0<=CA l x.a)&&decide (0<=CA l x.b)
def spG(s:Sm)(d:Int)(l:List Int):Bool:=Vk d l s.ps&&Uy l (IR d s.ls)
theorem f00{d:Int}{l:List Int}{P:List Pa}{i:Nat}(h:i<P.length):Vk d l (P.take (i+1))=(Vk d l (P.take i)&&decide (0<=CA l (GC d (P.getD i CK.d)))):=by rw[GF (d:=CK.d) h];simp[Vk]
theorem c6c{d:Int}{L:List Lo}{i:Nat}(h:i<L.length)(a:(L.getD i CB.d).s=d):IR d (L.take (i+1))=IR d (L.take i)++[L.getD i CB.d]:=by rw[GF (d:=CB.d) h];unfold IR;rw[List.filter_append];generalize L.getD i CB.d=x at*;simp[a]
theorem f1n{d:Int}{L:List Lo}{i:Nat}(h:i<L.length)(a:(L.getD i CB.d).s≠d):IR d (L.take (i+1))=IR d (L.take i):=by rw[GF (d:=CB.d) h];unfold IR;rw[List.filter_append];generalize L.getD i CB.d=x at*;simp[a]
theorem f2c{l:List Int}{L:List Lo}{x:Lo}:Uy l (L++[x])=(Uy l L&&decide (0<=CA l x.a)&&decide (0<=CA l x.b)):=by simp[Uy,Bool.and_assoc]
theorem g24{s:Sm}{d:Int}{l:List Int}{i:Nat}(h:i<s.ps.length):(Ov s d l).getD i AC.d=CA l (GC d (s.ps.getD i CK.d)):=by simp[Ov,h]
theorem UD{s:Sm}{d:Int}{l:List Int}:(Ov s d l).length=s.ps.length:=by simp[Ov]
theorem spRow{L:List Lo}{d:Int}{l:List Int}{i:Nat}{c:List SV}(h:i<L.length)(a:(L.getD i CB.d).s=d)(b:c=CK.sv (QW l (L.getD i CB.d))):∀j,j<(IR d (L.take i)).length+1->(if j<(IR d (L.take i)).length then CK.row ((IR d (L.take i)).map (QW l)) j else(List.map (λx:Nat×List SV=>x.snd) [(0,c)].reverse).getD (j-(IR d (L.take i)).length) [])=CK.row ((IR d (L.take (i+1))).map (QW l)) j:=by have:=SC (R:=CK) (l:=(IR d (L.take i)).map (QW l)) (x:=QW l (L.getD i CB.d)) b;rw[c6c h a,Lv];rwa[Kh]at this
theorem f6v{d:Int}{L:List Lo}{i:Nat}:(IR d (L.take i)).length<=L.length:=by unfold IR;exact Ch
def f83(s:Sm)(d:Int)(l:List Int):SV:=.tup [.sl 2 (Tm s d l).length (CK.row (Tm s d l)) none,.sl 1 (Ov s d l).length (AC.row (Ov s d l)) none,.bool (spG s d l)]
def spIn(s:Sm)(d:Int)(l:List Int):Prop:=(s.ps.length<=100000/\s.ls.length<=100000)/\l.length<=100000/\(d=0\/d=1)
def d0r:AH
 | [x,.int .u8 d,y]=>match asSm x,AC.as y with
   |some q,some u=>some (q.1/\AC.isL u.1 u.2/\spIn q.2 d (AC.lst u.1 u.2),f83 q.2 d (AC.lst u.1 u.2))
   |_,_=>none
 |_=>none
def FSpans:Fam:=⟨Sm×Int×List Int,λ(s,d,l)=>[.agg (LL s),.int .u8 d,.sl 1 l.length (AC.row l) none],λ(s,d,l)=>spIn s d l,λ(s,d,l)=>f83 s d l⟩
def spOwn(s:Sm)(l:List Int)(g:Bool)(a:List Blk):List Blk:=.cells 135 (LL s)::.cells 75 [.sl 1 l.length (AC.row l) none]::.cells 4 [.bool g]::a
def ISpans:Sm×Int×List Int->Nat->Option Inv
 |(s,d,l),4=>some {β:=Nat,ok:=λi=>i<=s.ps.length,st:=λi=>⟨[⟨20,none,.int .i64 i⟩,⟨19,none,.int .i64 s.ps.length⟩,⟨18,none,.sl 2 s.ps.length (CK.row s.ps) none⟩,⟨9,none,.clo 166 [.own 1 0,.own 2 0]⟩,⟨8,none,.own 2 0⟩,⟨7,none,.osl 3⟩,⟨6,none,.con (.slice none 0 0)⟩,⟨3,none,.own 0 0⟩,⟨1,none,.int .u8 d⟩],spOwn s l (Vk d l (s.ps.take i)) [.row 3 1 i (AC.row ((Ov s d l).take i)) none]⟩,μ:=λi=>s.ps.length-i,nl:=[.slot 7 3 1]}
 |(s,d,l),9=>some {β:=Nat,ok:=λi=>i<=s.ls.length,st:=λi=>⟨[⟨40,none,.int .i64 i⟩,⟨39,none,.int .i64 s.ls.length⟩,⟨38,none,.sl 3 s.ls.length (CB.row s.ls) none⟩,⟨9,none,.clo 166 [.own 1 0,.own 2 0]⟩,⟨8,none,.own 2 0⟩,⟨7,none,.osl 3⟩,⟨6,none,.osl 4⟩,⟨1,none,.int .u8 d⟩],spOwn s l (Vk d l s.ps&&Uy l (IR d (s.ls.take i))) [.row 3 1 (Ov s d l).length (AC.row (Ov s d l)) none,.row 223 2 (IR d (s.ls.take i)).length (CK.row ((IR d (s.ls.take i)).map (QW l))) none]⟩,μ:=λi=>s.ls.length-i,nl:=[.slot 6 223 2]}
 |_,_=>none
theorem pSpans:PS 115 d0r:=by
 refine LV {h:=[(166,hSp1)],c2:=true} ⟨E2,E2,by simpa using pSp1⟩ FSpans ISpans d0r ?_ ?_ Tryz.func115 E1 E1 E1 ?_
 .intro args pre s h f;unfold d0r at h;split at h
  .rename_i x d y;split at h
   .rename_i q u k m;cases h;exact⟨(q.2,d,AC.lst u.1 u.2),⟨d9i k f.1,Ea,JL (AC.as_leL m f.2.1),Jm⟩,f.2.2,rfl⟩
   .cases h
  .cases h
 .exact C1
 .rintro⟨s,d,l⟩ ⟨⟨bm,bv⟩,g,b⟩;rcases b with rfl|rfl;all_goals
   all_goals refine X0a _ ?_;(repeat' first|constructor|intro h)<;>refine Lm ?_
   refine⟨(0:Nat),Jw _,?_,?_⟩
   .exact X1d
   .intro i e;replace e:i<=s.ps.length:=e;refine X0a _ ?_;(repeat' first|constructor|intro h)<;>refine Lm ?_
    all_goals(try simp only[Ir,RT.lst_row]at*)
    all_goals(try first
     |omega
     |exact⟨RT.isL_row AC _,g⟩
     |exact A7
     |exact A6)
    .have a:i<s.ps.length:=Dz;refine⟨i+1,Dz,Dz,?_⟩;simp only[f00 a];refine X0a _ ?_;(repeat' first|constructor|intro h)<;>refine Lm ?_
     all_goals(first
      |exact An
      |exact f19 (by rw[UD];exact a) (by rw[g24 a];rfl)
      |skip)
    .have a:i=s.ps.length:=Dz;subst a;refine⟨(0:Nat),Jw _,?_,?_⟩
     .simp only[Kw,List.take_zero];refine X0a _ ?_;(repeat' first|constructor|intro h)<;>refine Lm ?_
      all_goals(first
       |exact A2
       |exact UD.symm
       |exact Af
       |(simp[Uy,IR];done)
       |(intro j _;rw[Lq (by rw[UD];exact Jp _)];done)
       |skip)
     .intro i e;replace e:i<=s.ls.length:=e;refine X0a _ ?_;(repeat' first|constructor|intro h)<;>refine Lm ?_
      all_goals(try simp only[Ir,RT.lst_row]at*)
      all_goals(try first
       |omega
       |exact⟨RT.isL_row AC _,g⟩
       |exact A7
       |(have:=@f6v 0 s.ls i;refine⟨Dz,?_⟩;exact MQ E1 Dz)
       |(have:=@f6v 1 s.ls i;refine⟨Dz,?_⟩;exact MQ E1 Dz)
       |exact A6
       |exact Bs)
      .have b:=h;have a:i<s.ls.length:=Dz;refine⟨i+1,Dz,Dz,?_⟩;simp only[c6c a b,f2c,J4,<-Bool.and_assoc];refine X0a _ ?_;(repeat' first|constructor|intro h)<;>refine Lm ?_
       all_goals(first
        |exact An
        |(rw[<-c6c a b];exact spRow a b rfl)
        |skip)
      .have b:=h;have a:i<s.ls.length:=Dz;refine⟨i+1,Dz,Dz,?_⟩;simp only[f1n a b];refine X0a _ ?_;(repeat' first|constructor|intro h)<;>refine Lm ?_
       all_goals(first
        |exact An
        |skip)
      all_goals
       have a:i=s.ls.length:=Dz;subst a;simp only[Kw];first
        |exact A2
        |(unfold Tm;rw[List.length_map];done)
        |skip
def SK(s:Int):Bool:=decide (1<s)
def f42:AH
 | [.agg [.int .u8 s,.int .i64 _,.int .i64 _]]=>some (True,.bool (SK s))
 |_=>none
def FCrs1:Fam:=⟨Int×Int×Int,λ(s,a,b)=>[.agg [.int .u8 s,.int .i64 a,.int .i64 b]],λ_=>True,λ(s,_,_)=>.bool (SK s)⟩
theorem pCrs1:PS 117 f42:=by
 refine con [] E2 FCrs1 (λ_ _=>none) f42 ?_ ?_ Tryz.func117 E1 E1 E1 ?_
 .intro args pre s h hp;unfold f42 at h;split at h
  .rename_i s a b;cases h;exact⟨(s,a,b),⟨Ee,Jm⟩,Jm,rfl⟩
  .cases h
 .exact C0
 .rintro⟨s,a,b⟩ _;refine X0a _ ?_;(repeat' first|constructor|intro h)<;>refine Lm ?_
  all_goals first|rfl|skip
def c8q:AH
 | [x,.clo g []]=>if g=117 then(CB.as x).map λq=>(CB.isL q.1 q.2/\q.1<=100000,.int .i64 (PL SK ((CB.lst q.1 q.2).map (·.s))))else none
 |_=>none
def f6f:Fam:=⟨List Lo,λl=>[.sl 3 l.length (CB.row l) none,.clo 117 []],λl=>l.length<=100000,λl=>.int .i64 (PL SK (l.map (·.s)))⟩
def IIdxFL:List Lo->Nat->Option Inv
 |l,2=>some {β:=Nat,ok:=λi=>i<=l.length/\∀j,j<i->SK ((l.map (·.s)).getD j 0)=false,st:=λi=>⟨[⟨8,none,.int .i64 i⟩,⟨7,none,.int .i64 l.length⟩,⟨1,none,.clo 117 []⟩,⟨0,none,.sl 3 l.length (CB.row l) none⟩],[]⟩,μ:=λi=>l.length-i}
 |_,_=>none
theorem f4z(l:List Lo)(i:Nat):(l.map (·.s)).getD i 0=(l.getD i CB.d).s:=by simp only[Jg,K9];cases l[i]?<;>rfl
theorem pIdxFL:PS 168 c8q:=by
 refine con [(117,f42)] (by simpa using pCrs1) f6f IIdxFL c8q ?_ ?_ Tryz.func168 E1 E1 E1 ?_
 .intro args pre s h a;unfold c8q at h;split at h
  .split at h
   .rename_i d;subst d;simp only[It]at h;obtain⟨⟨n,f⟩,hx,rfl,rfl⟩:=h;exact⟨CB.lst n f,⟨JL (CB.as_leL hx a.1),⟨rfl,rfl⟩,Jm⟩,by simp only[f6f,RT.lst_length];exact a.2,rfl⟩
   .cases h
  .cases h
 .exact Bz
 .intro(l:List Lo) a;replace a:l.length<=100000:=a;refine X0a _ ?_;(repeat' first|constructor|intro h)<;>refine Lm ?_
  refine⟨(0:Nat),⟨Jw _,λj hj=>Dz⟩,?_,?_⟩
  .exact X0d
  .intro i g;obtain⟨dj,br⟩:=g;have c:=f4z l i;have hml:(l.map (·.s)).length=l.length:=Kh ..;refine X0a _ ?_;(repeat' first|constructor|intro h)<;>refine Lm ?_
   all_goals(try simp only[Ir]at*)
   all_goals(first
    |exact Ap
    |rfl
    |exact Jm
    |exact(c0m Dz br (by rw[c];assumption)).symm
    |(refine⟨i+1,⟨Dz,λj hj=> ?_⟩,Ed,?_⟩)
    |exact Bq
    |skip)
   .by_cases e:j<i
    .exact br j e
    .have:j=i:=Dz;subst this;rw[c];assumption
   .exact X0e
def c96:AH
 | [x,.clo g []]=>if g=117 then(CB.as x).map λq=>(CB.isL q.1 q.2/\q.1<=100000,.bool (((CB.lst q.1 q.2).map (·.s)).any SK))else none
 |_=>none
def f73:Fam:=⟨List Lo,λl=>[.sl 3 l.length (CB.row l) none,.clo 117 []],λl=>l.length<=100000,λl=>.bool ((l.map (·.s)).any SK)⟩
theorem pCntFL:PS 116 c96:=by
 refine con [(168,c8q)] (by simpa using pIdxFL) f73 (λ_ _=>none) c96 ?_ ?_ Tryz.func116 E1 E1 E1 ?_
 .intro args pre s h a;unfold c96 at h;split at h
  .split at h
   .rename_i b;subst b;simp only[It]at h;obtain⟨⟨n,f⟩,hx,rfl,rfl⟩:=h;exact⟨CB.lst n f,⟨JL (CB.as_leL hx a.1),⟨rfl,rfl⟩,Jm⟩,by simp only[f73,RT.lst_length];exact a.2,rfl⟩
   .cases h
  .cases h
 .exact Bz
 .intro(l:List Lo) a;replace a:l.length<=100000:=a;refine X0a _ ?_;(repeat' first|constructor|intro h)<;>refine Lm ?_
  all_goals(try simp only[RT.lst_row]at*)
  all_goals(first
   |exact⟨CB.isL_row l,a⟩
   |exact b9f _ _
   |skip)
def RG(x:Pa)(h:Int):Bool:=decide (h>x.a)&&decide (h<x.b)
def Rg(x y:Pa):Bool:=(decide (x.a<y.a)&&decide (y.a<x.b)&&decide (x.b<y.b))||(decide (y.a<x.a)&&decide (x.a<y.b)&&decide (y.b<x.b))
def SF(L:List Pa)(P:List Int)(i:Nat):Bool:=P.any (RG (L.getD i CK.d))||(List.range i).any λj=>Rg (L.getD i CK.d) (L.getD j CK.d)
def KW(L:List Pa)(P:List Int):Bool:=(List.range L.length).any (SF L P)
def crC(s:Sm):Nat->Cl
 |0=>s.a
 |_=>s.b
def FE(s:Sm)(K:List Stk)(d:Nat):List Pa:=Tm s d (AP K (crC s d))
def EF(s:Sm)(K:List Stk)(d:Nat):List Int:=Ov s d (AP K (crC s d))
def Rq(s:Sm)(K:List Stk)(d:Nat):Bool:=spG s d (AP K (crC s d))
def Pw(s:Sm)(K:List Stk):Nat->Bool
 |0=>false
 |1=>KW (FE s K 0) (EF s K 0)
 |_=>KW (FE s K 0) (EF s K 0)||KW (FE s K 1) (EF s K 1)
def SR(s:Sm):Bool:=(s.ls.map (·.s)).any SK
def Ww(A B:List Int)(i k:Nat):Bool:=decide (CC (A.getD i AC.d) (A.getD k AC.d)*CC (B.getD i AC.d) (B.getD k AC.d)<0)
def RR(A B:List Int)(i:Nat):Bool:=(List.range i).any λa=>(List.range a).any (Ww A B a)
def OD(s:Sm)(K:List Stk):Int:=
 if(!Rq s K 0||SR s)=true then 1 else if(!Rq s K 1||SR s)=true then 1
 else if(Pw s K 2||RR (EF s K 0) (EF s K 1) s.ps.length)=true then 12 else 0
theorem crE_1{s:Sm}{K:List Stk}(a:(!Rq s K 0||SR s)=false)(h:(!Rq s K 1||SR s)=true):1=OD s K:=by unfold OD;rw[if_neg (by rw[a];decide),if_pos h]
theorem crE_2{s:Sm}{K:List Stk}(a:(!Rq s K 0||SR s)=false)(b:(!Rq s K 1||SR s)=false):OD s K=if(Pw s K 2||RR (EF s K 0) (EF s K 1) s.ps.length)=true then 12 else 0:=by unfold OD;rw[if_neg (by rw[a];decide),if_neg (by rw[b];decide)]
theorem XT(s:Sm)(K:List Stk)(b:Bool):∀i,i<2->KW (FE s K i) (EF s K i)=b->Pw s K (i+1)=(Pw s K i||b)
 |0,_,e=>by rw[<-e];rfl
 |1,_,e=>by rw[<-e];rfl
 |_+2,h,_=>Dz
theorem f79{s:Sm}{d:Int}{l:List Int}:(Tm s d l).length<=s.ls.length:=by unfold Tm IR;rw[Kh];exact N3 _ _
theorem c9f{L:List Pa}{P:List Int}(h:∀j,j<L.length->SF L P j=false):KW L P=false:=by unfold KW;rw[K2];intro j a;rw[h j (Kk.1 a)];decide
theorem d6r{L:List Pa}{P:List Int}{k:Nat}(a:k<L.length)(h:SF L P k=true):KW L P=true:=K1.2 ⟨k,Kk.2 a,h⟩
theorem f07{L:List Pa}{P:List Int}{k m:Nat}(b:k<L.length)(a:m<P.length)(h:RG (L.getD k CK.d) (P.getD m AC.d)=true):KW L P=true:=d6r b (by unfold SF;rw[Kp];refine .inl (K1.2 ⟨P.getD m AC.d,?_,h⟩);rw[Jg,Jh a];exact Kj a)
theorem c9v{P:List Int}{x:Pa}(h:∀j,j<P.length->RG x (P.getD j AC.d)=false):P.any (RG x)=false:=by rw[K2];intro v b;obtain⟨j,a,rfl⟩:=Kg.1 b;have:=h j a;rw[Jg,Jh a]at this;simp only[L5]at this;rw[this];decide
theorem d96{L:List Pa}{P:List Int}{k m:Nat}(a:k<L.length)(b:m<k)(h:Rg (L.getD k CK.d) (L.getD m CK.d)=true):KW L P=true:=d6r a (by unfold SF;rw[Kp];exact .inr (K1.2 ⟨m,Kk.2 b,h⟩))
theorem c4e{L:List Pa}{P:List Int}{k:Nat}(a:P.any (RG (L.getD k CK.d))=false)(b:∀j,j<k->Rg (L.getD k CK.d) (L.getD j CK.d)=false):SF L P k=false:=by unfold SF;rw[a,Nm,K2];intro j c;rw[b j (Kk.1 c)];decide
theorem d6i{f:Nat->Bool}{q:Nat}(h:f q=true):(List.range (q+1)).any f=true:=K1.2 ⟨q,Kk.2 (Nat.lt_succ_self q),h⟩
theorem d1d{f:Nat->Bool}{q:Nat}(h:f q=false):(List.range (q+1)).any f=(List.range q).any f:=by simp[O4,h]
theorem f2i(A B:List Int)(k:Nat):RR A B (k+1)=(RR A B k||(List.range k).any (Ww A B k)):=by simp[RR,O4]
theorem b8f(a b:Int):CC a b= -1\/CC a b=0\/CC a b=1:=by
 unfold CC;split
 .exact .inl rfl
 .split
  .exact .inr (.inr rfl)
  .exact .inr (.inl rfl)
theorem f89(a b c d:Int):AD .i64 (CC a b*CC c d):=by rcases b8f a b with e|e|e<;>rcases b8f c d with f|f|f<;>(rw[e,f];simp only[AD];omega)
def crIn(s:Sm)(K:List Stk):Prop:=(s.ps.length<=100000/\s.ls.length<=100000)/\CT K/\(∀c,(AP K c).length<=100000)
def nilV:SV:=.con (.slice none 0 0)
def VV(s:Sm)(K:List Stk)(d:Nat):SV:=.sl 1 (EF s K d).length (AC.row (EF s K d)) none
def paS(s:Sm)(K:List Stk):Nat->List SV
 |0=>[nilV,nilV]
 |1=>[VV s K 0,nilV]
 |_=>[VV s K 0,VV s K 1]
def f0k(s:Sm)(K:List Stk)(i:Nat)(c:List Blk):List Blk:=.cells 135 (LL s)::.cells 217 (paS s K i)::.row 103 3 2 (CJ.row [s.a,s.b]) none::c
def XY(s:Sm)(K:List Stk)(d:Nat):Bool:= !Rq s K d||SR s
def Uf(s:Sm)(K:List Stk)(d n:Nat):SV:=.sl 2 n (CK.row (FE s K d)) none
abbrev Ss(s:Sm)(K:List Stk)(d k:Nat):Pa:=(FE s K d).getD k CK.d
def paC(x:Pa):Blk:=.cells 223 [.int .i64 x.a,.int .i64 x.b]
def ICr:Sm×List Stk->Nat->Option Inv
 |(s,K),4=>some {β:=Nat,ok:=λi=>i<=2/\(1<=i->XY s K 0=false)/\(2<=i->XY s K 1=false),st:=λi=>⟨[⟨27,none,.int .i64 i⟩,⟨26,none,.int .i64 2⟩,⟨25,none,.osl 2⟩,⟨6,none,.bool (Pw s K i)⟩,⟨5,none,.own 1 0⟩,⟨2,none,.own 0 0⟩,⟨1,none,EW K⟩],f0k s K i []⟩,μ:=λi=>2-i,sub:=λi=>some fun
  |12=>some {β:=Nat,ok:=λk=>k<=(FE s K i).length/\∀j,j<k->SF (FE s K i) (EF s K i) j=false,st:=λk=>⟨[⟨56,none,.int .i64 k⟩,⟨55,none,.int .i64 (FE s K i).length⟩,⟨54,none,Uf s K i (FE s K i).length⟩,⟨11,none,VV s K i⟩,⟨10,none,Uf s K i (FE s K i).length⟩,⟨27,none,.int .i64 i⟩,⟨26,none,.int .i64 2⟩,⟨25,none,.osl 2⟩,⟨6,none,.bool (Pw s K i)⟩,⟨5,none,.own 1 0⟩,⟨2,none,.own 0 0⟩,⟨1,none,EW K⟩],f0k s K (i+1) []⟩,μ:=λk=>(FE s K i).length-k,sub:=λk=>some fun
   |15=>some {β:=Nat,ok:=λm=>m<=(EF s K i).length/\∀j,j<m->RG (Ss s K i k) ((EF s K i).getD j AC.d)=false,st:=λm=>⟨[⟨63,none,.int .i64 m⟩,⟨62,none,.int .i64 (EF s K i).length⟩,⟨61,none,VV s K i⟩,⟨14,none,.own 3 0⟩,⟨13,none,.int .i64 k⟩,⟨56,none,.int .i64 k⟩,⟨55,none,.int .i64 (FE s K i).length⟩,⟨54,none,Uf s K i (FE s K i).length⟩,⟨11,none,VV s K i⟩,⟨10,none,Uf s K i (FE s K i).length⟩,⟨27,none,.int .i64 i⟩,⟨26,none,.int .i64 2⟩,⟨25,none,.osl 2⟩,⟨6,none,.bool (Pw s K i)⟩,⟨5,none,.own 1 0⟩,⟨2,none,.own 0 0⟩,⟨1,none,EW K⟩],f0k s K (i+1) [paC (Ss s K i k)]⟩,μ:=λm=>(EF s K i).length-m}
   |21=>some {β:=Nat,ok:=λm=>m<=k/\(EF s K i).any (RG (Ss s K i k))=false/\∀j,j<m->Rg (Ss s K i k) (Ss s K i j)=false,st:=λm=>⟨[⟨82,none,.int .i64 m⟩,⟨81,none,.int .i64 k⟩,⟨80,none,Uf s K i k⟩,⟨14,none,.own 3 0⟩,⟨56,none,.int .i64 k⟩,⟨55,none,.int .i64 (FE s K i).length⟩,⟨54,none,Uf s K i (FE s K i).length⟩,⟨11,none,VV s K i⟩,⟨10,none,Uf s K i (FE s K i).length⟩,⟨27,none,.int .i64 i⟩,⟨26,none,.int .i64 2⟩,⟨25,none,.osl 2⟩,⟨6,none,.bool (Pw s K i)⟩,⟨5,none,.own 1 0⟩,⟨2,none,.own 0 0⟩,⟨1,none,EW K⟩],f0k s K (i+1) [paC (Ss s K i k)]⟩,μ:=λm=>k-m}
   |_=>none}
  |_=>none}
 |(s,K),29=>some {β:=Nat,ok:=λi=>i<=s.ps.length,st:=λi=>⟨[⟨132,none,.int .i64 i⟩,⟨131,none,.int .i64 s.ps.length⟩,⟨6,none,.bool (Pw s K 2||RR (EF s K 0) (EF s K 1) i)⟩,⟨5,none,.own 1 0⟩],[.cells 135 (LL s),.cells 217 (paS s K 2)]⟩,μ:=λi=>s.ps.length-i,sub:=λi=>some fun
  |32=>some {β:=Nat,ok:=λk=>k<=i,st:=λk=>⟨[⟨136,none,.int .i64 k⟩,⟨135,none,.int .i64 i⟩,⟨19,none,.int .i64 i⟩,⟨132,none,.int .i64 i⟩,⟨131,none,.int .i64 s.ps.length⟩,⟨6,none,.bool (Pw s K 2||RR (EF s K 0) (EF s K 1) i||(List.range k).any (Ww (EF s K 0) (EF s K 1) i))⟩,⟨5,none,.own 1 0⟩],[.cells 135 (LL s),.cells 217 (paS s K 2)]⟩,μ:=λk=>i-k}
  |_=>none}
 |_,_=>none
def FCr:Fam:=⟨Sm×List Stk,λ(s,K)=>[.agg (LL s),EW K],λ(s,K)=>crIn s K,λ(s,K)=>.int .i64 (OD s K)⟩
def b4g:AH
 | [x,y]=>match asSm x,LB y with
   |some q,some u=>some (q.1/\u.1/\crIn q.2 u.2,.int .i64 (OD q.2 u.2))
   |_,_=>none
 |_=>none
theorem f0i:PS 56 b4g:=by
 refine con [(114,f35),(115,d0r),(116,c96),(39,Ro)] (by simpa using⟨pStAt,pSpans,pCntFL,Xn⟩) FCr ICr b4g ?_ ?_ Tryz.func56 E1 E1 E1 ?_
 .intro args pre s h z;unfold b4g at h;split at h
  .rename_i x y;split at h
   .rename_i q u F G;cases h;exact⟨(q.2,u.2),⟨d9i F z.1,(PC G z.2.1).1,Jm⟩,z.2.2,rfl⟩
   .cases h
  .cases h
 .exact Bz
 .rintro⟨s,K⟩ ⟨⟨bm,bv⟩,gm,w4⟩;refine X0a _ ?_;(repeat' first|constructor|intro h)<;>refine Lm ?_
  refine⟨(0:Nat),⟨E4,λh=>absurd h E4,λh=>absurd h E4⟩,?_,?_⟩
  .refine X0a _ ?_;(repeat' first|constructor|intro h)<;>refine Lm ?_
   all_goals first|exact A2|(intro j b;rcases(show j=0\/j=1 from Dz)with rfl|rfl<;>rfl)|skip
  .intro i g;obtain⟨g,dj,E⟩:=g;replace g:i<=2:=g;rcases(show i=0\/i=1\/i=2 from Dz)with rfl|rfl|rfl
   .refine X0a _ ?_;(repeat' first|constructor|intro h)<;>refine Lm ?_
    all_goals(try simp only[Ir,RT.lst_row]at*)
    all_goals(try first
     |exact Ak)
    have d:(EF s K 0).length=s.ps.length:=UD;have A:(FE s K 0).length<=s.ls.length:=f79;have c:(1<=1->XY s K 0=false)/\(2<=1->XY s K 1=false):=⟨λ_=>h,λe=>absurd e E4⟩
    refine⟨(0:Nat),⟨Jw _,λj b=>absurd b (K5 _)⟩,?_,?_⟩
    .exact X1e
    .intro k l;obtain⟨H,o⟩:=l;refine X0a _ ?_;(repeat' first|constructor|intro h)<;>refine Lm ?_
     all_goals(try simp only[Ir]at*)
     all_goals(try first
      |exact Ap)
     .have r:k<(FE s K 0).length:=Dz;refine⟨(0:Nat),⟨Jw _,λj b=>absurd b (K5 _)⟩,?_,?_⟩
      .exact X1e
      .intro m B;obtain⟨I,t⟩:=B;refine X0a _ ?_;(repeat' first|constructor|intro h)<;>refine Lm ?_
       all_goals(try simp only[Ir]at*)
       all_goals(try first
        |exact Ap
        |exact B8)
       .have hs:KW (FE s K 0) (EF s K 0)=true:=f07 (m:=m) r Dz (by unfold RG;assumption);refine⟨(1:Nat),⟨E4,c.1,c.2⟩,E4,?_⟩;exact X1f
       .refine⟨m+1,⟨Dz,λj b=> ?_⟩,by show _-(m+1)<_-m;omega,?_⟩
        .by_cases e:j<m
         .exact t j e
         .have:j=m:=Dz;subst this;assumption
        .exact X1g
       .have C:=c9v (x:=Ss s K 0 k) λj b=>t j Dz;refine⟨(0:Nat),⟨Jw _,C,λj b=>absurd b (K5 _)⟩,?_,?_⟩
        .refine X0a _ ?_;(repeat' first|constructor|intro h)<;>refine Lm ?_
         all_goals first|exact An|(intro j _;simp;done)|skip
        .intro q n;obtain⟨J,v,w⟩:=n;refine X0a _ ?_;(repeat' first|constructor|intro h)<;>refine Lm ?_
         all_goals(try simp only[Ir]at*)
         all_goals(try first
          |exact Ap)
         .have hs:KW (FE s K 0) (EF s K 0)=true:=d96 (m:=q) r Dz (by unfold Rg;assumption);refine⟨(1:Nat),⟨E4,c.1,c.2⟩,E4,?_⟩;exact X1f
         .refine⟨q+1,⟨Dz,v,λj b=> ?_⟩,Hv,?_⟩
          .by_cases e:j<q
           .exact w j e
           .have:j=q:=Dz;subst this;unfold Rg;assumption
          .exact X1g
         .refine⟨k+1,⟨Dz,λj b=> ?_⟩,Gc,?_⟩
          .by_cases e:j<k
           .exact o j e
           .have:j=k:=Dz;subst this;exact c4e v λi g=>w i Dz
          .exact X1g
     .have hs:KW (FE s K 0) (EF s K 0)=false:=c9f λj b=>o j Dz;refine⟨(1:Nat),⟨E4,c.1,c.2⟩,E4,?_⟩;refine X0a _ ?_;(repeat' first|constructor|intro h)<;>refine Lm ?_
      all_goals first|exact An|exact(XT s K false 0 E4 hs).symm|exact((XT s K false 0 E4 hs).trans (N1 _)).symm|skip
   .refine X0a _ ?_;(repeat' first|constructor|intro h)<;>refine Lm ?_
    all_goals(try simp only[Ir,RT.lst_row]at*)
    all_goals(try first
     |exact Ak)
    have d:(EF s K 1).length=s.ps.length:=UD;have A:(FE s K 1).length<=s.ls.length:=f79;have c:(1<=2->XY s K 0=false)/\(2<=2->XY s K 1=false):=⟨λ_=>dj (Jp 1),λ_=>h⟩
    refine⟨(0:Nat),⟨Jw _,λj b=>absurd b (K5 _)⟩,?_,?_⟩
    .exact X1e
    .intro k l;obtain⟨H,o⟩:=l;refine X0a _ ?_;(repeat' first|constructor|intro h)<;>refine Lm ?_
     all_goals(try simp only[Ir]at*)
     all_goals(try first
      |exact Ap)
     .have r:k<(FE s K 1).length:=Dz;refine⟨(0:Nat),⟨Jw _,λj b=>absurd b (K5 _)⟩,?_,?_⟩
      .exact X1e
      .intro m B;obtain⟨I,t⟩:=B;refine X0a _ ?_;(repeat' first|constructor|intro h)<;>refine Lm ?_
       all_goals(try simp only[Ir]at*)
       all_goals(try first
        |exact Ap
        |exact B8)
       .have hs:KW (FE s K 1) (EF s K 1)=true:=f07 (m:=m) r Dz (by unfold RG;assumption);refine⟨(2:Nat),⟨E4,c.1,c.2⟩,E4,?_⟩;exact X1h
       .refine⟨m+1,⟨Dz,λj b=> ?_⟩,by show _-(m+1)<_-m;omega,?_⟩
        .by_cases e:j<m
         .exact t j e
         .have:j=m:=Dz;subst this;assumption
        .exact X1g
       .have C:=c9v (x:=Ss s K 1 k) λj b=>t j Dz;refine⟨(0:Nat),⟨Jw _,C,λj b=>absurd b (K5 _)⟩,?_,?_⟩
        .refine X0a _ ?_;(repeat' first|constructor|intro h)<;>refine Lm ?_
         all_goals first|exact An|(intro j _;simp;done)|skip
        .intro q n;obtain⟨J,v,w⟩:=n;refine X0a _ ?_;(repeat' first|constructor|intro h)<;>refine Lm ?_
         all_goals(try simp only[Ir]at*)
         all_goals(try first
          |exact Ap)
         .have hs:KW (FE s K 1) (EF s K 1)=true:=d96 (m:=q) r Dz (by unfold Rg;assumption);refine⟨(2:Nat),⟨E4,c.1,c.2⟩,E4,?_⟩;exact X1h
         .refine⟨q+1,⟨Dz,v,λj b=> ?_⟩,Hv,?_⟩
          .by_cases e:j<q
           .exact w j e
           .have:j=q:=Dz;subst this;unfold Rg;assumption
          .exact X1g
         .refine⟨k+1,⟨Dz,λj b=> ?_⟩,Gc,?_⟩
          .by_cases e:j<k
           .exact o j e
           .have:j=k:=Dz;subst this;exact c4e v λi g=>w i Dz
          .exact X1g
     .have hs:KW (FE s K 1) (EF s K 1)=false:=c9f λj b=>o j Dz;refine⟨(2:Nat),⟨E4,c.1,c.2⟩,E4,?_⟩;refine X0a _ ?_;(repeat' first|constructor|intro h)<;>refine Lm ?_
      all_goals first|exact An|exact(XT s K false 1 E4 hs).symm|exact((XT s K false 1 E4 hs).trans (N1 _)).symm|skip
   .refine X0a _ ?_;(repeat' first|constructor|intro h)<;>refine Lm ?_
    all_goals(try simp only[]at*)
    all_goals(try omega)
    have d:(EF s K 0).length=s.ps.length:=UD;have hPm:(EF s K 1).length=s.ps.length:=UD;refine⟨(0:Nat),Jw _,?_,?_⟩
    .refine X0a _ ?_;(repeat' first|constructor|intro h)<;>refine Lm ?_
     all_goals first|exact A2|exact(N1 _).symm|(rw[d];done)|skip
    .intro k l;replace l:k<=s.ps.length:=l;refine X0a _ ?_;(repeat' first|constructor|intro h)<;>refine Lm ?_
     all_goals(try simp only[Ir]at*)
     .refine⟨(0:Nat),Jw _,?_,?_⟩
      .refine X0a _ ?_;(repeat' first|constructor|intro h)<;>refine Lm ?_
       all_goals first|exact A2|exact(N1 _).symm|skip
      .intro q n;replace n:q<=k:=n;refine X0a _ ?_;(repeat' first|constructor|intro h)<;>refine Lm ?_
       all_goals(try simp only[Ir]at*)
       all_goals(try first
        |exact Ap
        |exact f89 _ _ _ _
        |exact Aw)
       .refine⟨q+1,by show q+1<=k;omega,by show k-(q+1)<k-q;omega,?_⟩;refine X0a _ ?_;(repeat' first|constructor|intro h)<;>refine Lm ?_
        all_goals first|exact An|(have e:=d6i (f:=Ww (EF s K 0) (EF s K 1) k) (q:=q) (K3 h);rw[e,Bool.or_true];done)|skip
       .refine⟨q+1,by show q+1<=k;omega,by show k-(q+1)<k-q;omega,?_⟩;refine X0a _ ?_;(repeat' first|constructor|intro h)<;>refine Lm ?_
        all_goals first|exact An|(have e:=d1d (f:=Ww (EF s K 0) (EF s K 1) k) (q:=q) (K4 h);rw[e];done)|skip
       .have e:q=k:=Dz;subst e;refine⟨q+1,by show q+1<=_;omega,Hv,?_⟩;refine X0a _ ?_;(repeat' first|constructor|intro h)<;>refine Lm ?_
        all_goals first|exact An|(rw[f2i,Bool.or_assoc];done)|skip
     .have e:k=s.ps.length:=Dz;subst e;rw[crE_2 (dj E4) (E E4),Ji E5]
     .have e:k=s.ps.length:=Dz;subst e;rw[crE_2 (dj E4) (E E4),Jj (by simp_all)]
def Co(p:Pt)(r:Mv)(L:List Stk):List SV:=[.int .i64 p.W,.int .i64 p.H,.sl 3 p.l.length (Eo p.l) none,.int .u8 r.t,.int .i64 r.x,.int .i64 r.y,EW L]
def MZ:SV->Option (Prop×Pt×Mv×List Stk)
 |.agg [.int .i64 W,.int .i64 H,c,.int .u8 t,.int .i64 a,.int .i64 b,z]=>match Po c,LB z with
  |some q,some s=>some (((MI q.1 q.2/\q.1<=100000)/\(∀x∈FX q.1 q.2,AD .u8 x.e)/\0<=t/\t<=255)/\s.1/\(∀x∈s.2,AD .u8 x.c.q)/\(BD s.2).length<=100000,⟨W,H,FX q.1 q.2⟩,⟨t,a,b⟩,s.2)
  |_,_=>none
 |_=>none
theorem c99{x:SV}{q:Prop}{L:List Stk}(h:LB x=some (q,L))(hq:q):x.le0 (EW L)/\CT L:=by unfold LB at h;simp only[It]at h;obtain⟨⟨n,f⟩,hx,rfl,rfl⟩:=h;exact⟨AA.as_leL hx hq.1,Hk,hq.2.2⟩
theorem QQ{x:SV}{q:Prop}{p:Pt}{r:Mv}{L:List Stk}(h:MZ x=some (q,p,r,L))(d:q):x.le2 (.agg (Co p r L))/\prOK p r/\DV L:=by
 unfold MZ at h;split at h
 .rename_i W H c t a b z;split at h
  .rename_i u v e f;cases h;obtain⟨⟨⟨g,i⟩,j,k,l⟩,m,n,o⟩:=d;obtain⟨s,w⟩:=c99 f m;refine⟨?_,⟨⟨by simp only[TY];exact i,j⟩,k,l⟩,w,n,o⟩;refine⟨E7,E7,TP e g,E7,E7,E7,s,Jm⟩
  .cases h
 .cases h
def SW(p:Pt)(r:Mv)(L:List Stk)(u:List Bool)(S:List Sm):List SV:=Co p r L++[.sl 1 u.length (EJ.row u) none,.sl 9 S.length (GN.row S) none]
def zP(e:Int)(p:Pt):Pt:=if e=0 then p else⟨0,0,[]⟩
def zR(e:Int)(r:Mv):Mv:=if e=0 then r else⟨0,0,0⟩
def zL{α:Type}(e:Int)(L:List α):List α:=if e=0 then L else []
def rLook(p:Pt)(r:Mv)(L:List Stk):SV:=.tup [.agg (SW (zP (EO p r L) p) (zR (EO p r L) r) (zL (EO p r L) L) (zL (EO p r L) (FW p r)) (zL (EO p r L) (GT p r L))),.int .i64 (EO p r L)]
def f31:AH
 | [x]=>(MZ x).map λq=>(q.1,rLook q.2.1 q.2.2.1 q.2.2.2)
 |_=>none
def FLook:Fam:=⟨Pt×Mv×List Stk,λ(p,r,L)=>[.agg (Co p r L)],λ(p,r,L)=>prOK p r/\DV L,λ(p,r,L)=>rLook p r L⟩
theorem pLook:PS 15 f31:=by
 refine con [(55,f1m),(26,VY)] (by simpa using⟨pSeOf,pUp⟩) FLook (λ_ _=>none) f31 ?_ ?_ Tryz.func15 E1 E1 E1 ?_
 .intro args pre s h a;unfold f31 at h;split at h
  .simp only[It]at h;obtain⟨⟨q,p,r,L⟩,hx,rfl,rfl⟩:=h;obtain⟨h1,h2,h3⟩:=QQ hx a;exact Ci
  .cases h
 .exact C0
 .rintro⟨p,r,L⟩ ⟨bm,bv⟩;refine X0a _ ?_;(repeat' first|constructor|intro h)<;>refine Lm ?_
  all_goals(try simp only[CE,RT.lst_row]at*)
  all_goals(first
   |exact Bj
   |(have e:EO p r L=0:=by simpa using h
     first
      |(simp[zP,zR,zL,e];done)
      |(show CH p r=_;rw[(VG e).1,e];done))
   |(have e:¬EO p r L=0:=by simpa using h
     simp[zP,zR,zL,e];done)
   |skip)
def asLk:SV->Option (Prop×Pt×Mv×List Stk×List Bool×List Sm)
 |.agg [.int .i64 W,.int .i64 H,c,.int .u8 t,.int .i64 a,.int .i64 b,z,u,s]=>match Po c,LB z,EJ.as u,GN.as s with
  |some q,some v,some x,some y=>some ((MI q.1 q.2/\q.1<=100000)/\v.1/\(EJ.isL x.1 x.2/\x.1<=100000)/\(GN.isL y.1 y.2/\y.1<=100000),⟨W,H,FX q.1 q.2⟩,⟨t,a,b⟩,v.2,EJ.lst x.1 x.2,GN.lst y.1 y.2)
  |_,_,_,_=>none
 |_=>none
def WP(p:Pt)(L:List Stk)(u:List Bool)(S:List Sm):Prop:=p.l.length<=100000/\CT L/\u.length<=100000/\S.length<=100000
theorem c6d{x:SV}{q:Prop}{p:Pt}{r:Mv}{L:List Stk}{u:List Bool}{S:List Sm}(h:asLk x=some (q,p,r,L,u,S))(f:q):x.le2 (.agg (SW p r L u S))/\WP p L u S:=by
 unfold asLk at h;split at h
 .rename_i W H c t a b z u' s';split at h
  .rename_i g i j k;cases h;obtain⟨q1,l,d,e⟩:=f;obtain⟨m,n⟩:=c99 i l;exact⟨⟨E7,E7,TP g q1.1,E7,E7,E7,m,EJ.as_leL j d.1,GN.as_leL k e.1,Jm⟩,Hn,n,by rw[RT.lst_length];exact d.2,by rw[RT.lst_length];exact e.2⟩
  .cases h
 .cases h
def Ot(L:List Stk)(S:List Sm):Int:=if(S.any λs=> !decide (OD s L=0))=true then 12 else 0
def f88(S:List Sm):Prop:=∀s∈S,s.ps.length<=100000/\s.ls.length<=100000
theorem g0m{L:List Stk}(h:CT L)(c:Cl):(AP L c).length<=100000:=by
 unfold AP;split
 .rename_i s hs;exact h.2 s (List.mem_of_find?_eq_some hs)
 .exact Jw _
def b1q:AH
 | [x]=>(asLk x).map λq=>(q.1/\f88 q.2.2.2.2.2,.int .i64 (Ot q.2.2.2.1 q.2.2.2.2.2))
 |_=>none
def d1x:Fam:=⟨Pt×Mv×List Stk×List Bool×List Sm,λ(p,r,L,u,S)=>[.agg (SW p r L u S)],λ(p,_,L,u,S)=>WP p L u S/\f88 S,λ(_,_,L,_,S)=>.int .i64 (Ot L S)⟩
def d1e:Pt×Mv×List Stk×List Bool×List Sm->Nat->Option Inv
 |(p,r,L,u,S),2=>some {β:=Nat,ok:=λi=>i<=S.length/\∀j,j<i->OD (S.getD j BM) L=0,st:=λi=>⟨[⟨8,none,.int .i64 i⟩,⟨7,none,.int .i64 S.length⟩,⟨6,none,.sl 9 S.length (GN.row S) none⟩,⟨1,none,.own 0 0⟩],[.cells 62 (SW p r L u S)]⟩,μ:=λi=>S.length-i}
 |_,_=>none
theorem g3t{L:List Stk}{S:List Sm}{i:Nat}(hi:i<S.length)(h:¬OD (S.getD i BM) L=0):Ot L S=12:=by unfold Ot;rw[Ji];exact K1.2 ⟨S.getD i BM,DP hi,E6⟩
theorem f13{L:List Stk}{S:List Sm}(h:∀j,j<S.length->OD (S.getD j BM) L=0):Ot L S=0:=by unfold Ot;rw[Jj];intro b;obtain⟨s,hs,a⟩:=K1.1 b;obtain⟨i,c,rfl⟩:=OX (d:=BM) hs;rw[h i c]at a;exact absurd a E4
theorem d25:PS 16 b1q:=by
 refine con [(56,b4g)] (by simpa using f0i) d1x d1e b1q ?_ ?_ Tryz.func16 E1 E1 E1 ?_
 .intro args pre s h f;unfold b1q at h;split at h
  .simp only[It]at h;obtain⟨⟨q,p,r,L,u,S⟩,hx,rfl,rfl⟩:=h;obtain⟨l,m⟩:=c6d hx f.1;exact⟨(p,r,L,u,S),⟨l,Jm⟩,⟨m,f.2⟩,rfl⟩
  .cases h
 .exact C0
 .rintro⟨p,r,L,u,S⟩ ⟨⟨bm,a,gm,w4⟩,b⟩;refine X0a _ ?_;(repeat' first|constructor|intro h)<;>refine Lm ?_
  refine⟨(0:Nat),⟨Jw _,λj d=>absurd d (K5 _)⟩,?_,?_⟩
  .exact X1e
  .intro i n;obtain⟨g,k⟩:=n;replace g:i<=S.length:=g;have hs:i<S.length->(S.getD i BM).ps.length<=100000/\(S.getD i BM).ls.length<=100000:=λh=>b _ (DP h);refine X0a _ ?_;(repeat' first|constructor|intro h)<;>refine Lm ?_
   all_goals(try simp only[Ir,RT.lst_row]at*)
   all_goals(try first
    |omega
    |exact⟨⟨CK.is_row _,CB.is_row _,AC.is_row _⟩,MS L a,hs Dz,a,g0m a⟩
    |exact A6
    |exact(f13 λj d=>k j Dz).symm)
   .have hb:(!decide (OD (S.getD i BM) L=0))=true:=h;exact(g3t (i:=i) Dz Gj).symm
   .refine⟨i+1,⟨Dz,λj d=> ?_⟩,Ed,?_⟩
    .by_cases e:j<i
     .exact k j e
     .have:j=i:=Dz;subst this;have hb:(!decide (OD (S.getD j BM) L=0))=false:=h;simpa using hb
    .exact X1g
def JC(W H a b e:Int):Bool:=decide (AR W H a e=0)&&decide (AE W H a e=b)
def Pr(W H a b:Int):Option Int:=if JC W H a b 0=true then some 0 else if JC W H a b 1=true then some 1 else if JC W H a b 2=true then some 2 else none
def Yp(W H a b:Int):Int:=if(Pr W H a b).isSome=true then a else 0
def creG(W H a b:Int):Int:=(Pr W H a b).getD 0
def d6p(W H a b:Int):SV:=.agg [.int .i64 (Yp W H (min a b) (max a b)),.int .u8 (creG W H (min a b) (max a b))]
def c0f:AH
 | [.agg [.int .i64 W,.int .i64 H],.agg [.int .u8 _,.int .i64 a,.int .i64 b]]=>some (True,d6p W H a b)
 |_=>none
def g2j:Fam:=⟨(Int×Int)×Int×Int×Int,λ((W,H),s,a,b)=>[.agg [.int .i64 W,.int .i64 H],.agg [.int .u8 s,.int .i64 a,.int .i64 b]],λ_=>True,λ((W,H),_,a,b)=>d6p W H a b⟩
def g01:(Int×Int)×Int×Int×Int->Nat->Option Inv
 |((W,H),s,a,b),3=>some {β:=Nat,ok:=λi=>i<=3/\∀j:Nat,j<i->JC W H (min a b) (max a b) j=false,st:=λi=>⟨[⟨20,none,.int .u8 i⟩,⟨6,none,.int .i64 (max a b)⟩,⟨5,none,.int .i64 (min a b)⟩,⟨4,none,.own 2 0⟩,⟨2,none,.own 0 0⟩],[.cells 31 [.int .i64 W,.int .i64 H],.cells 138 [.int .u8 s,.int .i64 a,.int .i64 b],.cells 71 [.int .i64 0,.int .u8 0]]⟩,μ:=λi=>3-i}
 |_,_=>none
theorem f9f{W H a b:Int}{i:Nat}(hi:i<3)(h:∀j:Nat,j<i->JC W H a b j=false)(c:JC W H a b i=true):Pr W H a b=some (i:Int):=by
 rcases(show i=0\/i=1\/i=2 from Dz)with rfl|rfl|rfl
 .exact Ji c
 .have d:¬JC W H a b 0=true:=In;unfold Pr;rw[if_neg d];exact if_pos c
 .have d:¬JC W H a b 0=true:=In;have e:¬JC W H a b 1=true:=Iq;unfold Pr;rw[if_neg d,if_neg e];exact if_pos c
theorem f3k{W H a b:Int}(h:∀j:Nat,j<3->JC W H a b j=false):Pr W H a b=none:=by
 have c:¬JC W H a b 0=true:=In;have d:¬JC W H a b 1=true:=Iq;have e:¬JC W H a b 2=true:=by rw[show JC W H a b 2=false from h 2 E4];decide
 unfold Pr;rw[if_neg c,if_neg d,if_neg e]
theorem g1q:PS 57 c0f:=by
 refine con [(32,Rw)] (by simpa using UT) g2j g01 c0f ?_ ?_ Tryz.func57 E1 E1 E1 ?_
 .intro args pre s h hp;unfold c0f at h;split at h
  .rename_i W H s a b;cases h;exact⟨((W,H),s,a,b),⟨Ee,Ee,Jm⟩,Jm,rfl⟩
  .cases h
 .exact Bz
 .rintro⟨⟨W,H⟩,s,a,b⟩ _;refine X0a _ ?_;(repeat' first|constructor|intro h)<;>refine Lm ?_
  refine⟨(0:Nat),⟨Jw _,λj d=>absurd d (K5 _)⟩,?_,?_⟩
  .exact X1e
  .intro i k;obtain⟨g,f⟩:=k;replace g:i<=3:=g;refine X0a _ ?_;(repeat' first|constructor|intro h)<;>refine Lm ?_
   all_goals(try simp only[Ir]at*)
   all_goals(try first
    |exact Ap
    |(have e:=f9f (i:=i) Dz f (by unfold JC;assumption);simp[Yp,creG,e];done)
    |(have e:=f3k λj d=>f j Dz;simp[Yp,creG,e];done))
   .refine⟨i+1,⟨Dz,λj d=> ?_⟩,Ed,?_⟩
    .by_cases e:j<i
     .exact f j e
     .have:j=i:=Dz;subst this;unfold JC;assumption
    .exact X1g
def Yc(u:List Bool)(b:Int):Int:=if u.getD b.toNat EJ.d=true then 1 else 2
def b9u:AH
 | [x,.agg [.int .u8 _,.int .i64 _,.int .i64 b]]=>(asLk x).map λq=>(q.1/\0<=b/\b<q.2.2.2.2.1.length,.int .u8 (Yc q.2.2.2.2.1 b))
 |_=>none
def f8v:Fam:=⟨(Pt×Mv×List Stk×List Bool×List Sm)×Int×Int×Int,λ((p,r,L,u,S),s,a,b)=>[.agg (SW p r L u S),.agg [.int .u8 s,.int .i64 a,.int .i64 b]],λ((p,_,L,u,S),_,_,b)=>WP p L u S/\0<=b/\b<u.length,λ((_,_,_,u,_),_,_,b)=>.int .u8 (Yc u b)⟩
theorem f98:PS 58 b9u:=by
 refine con [] E2 f8v (λ_ _=>none) b9u ?_ ?_ Tryz.func58 E1 E1 E1 ?_
 .intro args pre s h c;unfold b9u at h;split at h
  .rename_i x d a b;simp only[It]at h;obtain⟨⟨q,p,r,L,u,S⟩,hx,rfl,rfl⟩:=h;obtain⟨e,f⟩:=c6d hx c.1;exact⟨((p,r,L,u,S),d,a,b),⟨e,Ee,Jm⟩,⟨f,c.2⟩,rfl⟩
  .cases h
 .exact Bz
 .rintro⟨⟨p,r,L,u,S⟩,s,a,b⟩ c;replace c:WP p L u S/\0<=b/\b<u.length:=c;refine X0a _ ?_;(repeat' first|constructor|intro h)<;>refine Lm ?_
  all_goals(first
   |omega
   |exact(Ji h).symm
   |exact(Jj (by rw[h];decide)).symm
   |skip)
def To(v:List Int->List SV)(q:List Int):Int:=match v q with
 | [.int _ m]=>m
 |_=>0
def Sc(h:List Int->Bool)(g:List Int->Int)(w:Bool):List Blk:=[.cells 4 [.bool w],.cells 66 [.omp 2],.map (.ints [.i64,.u8]) false h (λq=>[.int .u8 (g q)])]
def d62(g:List Int->Int)(q:List Int)(k:Int):Bool:= !decide (g q=3)&& !decide (g q=k)
def chFit(h:List Int->Bool)(v:List Int->List SV):Prop:=(∀q,v q=[.int .u8 (To v q)])/\∀q,h q=false->To v q=0
def f38:HK:=λa own=>match a,own with
 | [.agg [.int .i64 c,.int .u8 e],.int .u8 k,.own 0 0,.own 1 0],[.cells b [.bool w],.cells d [.omp 2],.map K f h v]=>if b=4/\d=66/\K=.ints [.i64,.u8]/\f=false then some ⟨chFit h v,.tup [],Sc h (To v) (w||d62 (To v) [c,e] k),[]⟩else none
 |_,_=>none
def FChk1:FamH:=⟨(Int×Int×Int)×(List Int->Bool)×(List Int->Int)×Bool,λ((c,e,k),_)=>[.agg [.int .i64 c,.int .u8 e],.int .u8 k,.own 0 0,.own 1 0],λ(_,h,g,w)=>Sc h g w,λ(_,h,g,_)=>∀q,h q=false->g q=0,λ_=>.tup [],λ((c,e,k),h,g,w)=>Sc h g (w||d62 g [c,e] k),[]⟩
theorem pChk1:HS 18 f38:=by
 refine JO {} ⟨E2,E2,E2⟩ FChk1 (λ_ _=>none) f38 ?_ ?_ ?_ Tryz.func18 E1 E1 E1 ?_
 .intro args own r h a;unfold f38 at h;split at h
  .rename_i c e k T1 w T2 K ag hs v;split at h
   .rename_i b;obtain⟨rfl,rfl,rfl,rfl⟩:=b;cases h;obtain⟨d,f⟩:=a;refine⟨((c,e,k),hs,To v,w),⟨Ee,Ea,Ea,Ea,Jm⟩,rfl,⟨⟨Em,E7,Jm⟩,⟨Em,E7,Jm⟩,⟨⟨rfl,rfl⟩,λ_=>rfl,λq _=>d q⟩,Jm⟩,f,rfl,rfl,rfl⟩
   .cases h
  .cases h
 .intro i;show 4<=_;decide
 .intro i;show 3<=3;decide
 .rintro⟨⟨c,e,k⟩,hs,g,w⟩ μ a;replace a:∀q,hs q=false->g q=0:=a;refine X0a _ ?_;(repeat' first|constructor|intro h)<;>refine Lm ?_
  all_goals(first
   |exact λ_ j=>by rw[a _ j];kernel_rfl
   |exact B3
   |exact Bp
   |rfl
   |skip)
def Ui(p:Pt)(u:List Bool)(x:Lo):List Int×Int:=([Yp p.W p.H (min x.a x.b) (max x.a x.b),creG p.W p.H (min x.a x.b) (max x.a x.b)],Yc u x.b)
def Wr(p:Pt)(u:List Bool)(g:List Int->Int)(l:List Lo):Bool:=l.any λx=>d62 g (Ui p u x).1 (Ui p u x).2
def PN(p:Pt)(u:List Bool)(g:List Int->Int)(S:List Sm):Bool:=S.any λs=>Wr p u g s.ls
def loIn(u:List Bool)(S:List Sm):Prop:=∀s∈S,s.ls.length<=100000/\∀x∈s.ls,0<=x.b/\x.b<u.length
def d14:HK:=λa own=>match a,own with
 | [x,.clo f [.own 0 0,.own 1 0]],[.cells b [.bool w],.cells c [.omp 2],.map K d h v]=>if f=18/\b=4/\c=66/\K=.ints [.i64,.u8]/\d=false then
     (asLk x).map λq=>⟨chFit h v/\q.1/\loIn q.2.2.2.2.1 q.2.2.2.2.2,.tup [],Sc h (To v) (w||PN q.2.1 q.2.2.2.2.1 (To v) q.2.2.2.2.2),[]⟩else none
 |_,_=>none
def FLoops:FamH:=⟨(Pt×Mv×List Stk×List Bool×List Sm)×(List Int->Bool)×(List Int->Int)×Bool,λ((p,r,L,u,S),_)=>[.agg (SW p r L u S),.clo 18 [.own 0 0,.own 1 0]],λ(_,h,g,w)=>Sc h g w,λ((p,_,L,u,S),h,g,_)=>WP p L u S/\loIn u S/\∀q,h q=false->g q=0,λ_=>.tup [],λ((p,_,_,u,S),h,g,w)=>Sc h g (w||PN p u g S),[]⟩
def ILoops:(Pt×Mv×List Stk×List Bool×List Sm)×(List Int->Bool)×(List Int->Int)×Bool->Nat->Option Inv
 |((p,r,L,u,S),h,g,w),2=>some {β:=Nat,ok:=λi=>i<=S.length,st:=λi=>⟨[⟨11,none,.int .i64 i⟩,⟨10,none,.int .i64 S.length⟩,⟨9,none,.sl 9 S.length (GN.row S) none⟩,⟨2,none,.own 3 0⟩,⟨1,none,.clo 18 [.own 0 0,.own 1 0]⟩],Sc h g (w||PN p u g (S.take i))++[.cells 62 (SW p r L u S)]⟩,μ:=λi=>S.length-i,sub:=λi=>some fun
  |5=>some {β:=Nat,ok:=λk=>k<=(S.getD i GN.d).ls.length,st:=λk=>⟨[⟨18,none,.int .i64 k⟩,⟨17,none,.int .i64 (S.getD i GN.d).ls.length⟩,⟨16,none,.sl 3 (S.getD i GN.d).ls.length (CB.row (S.getD i GN.d).ls) none⟩,⟨11,none,.int .i64 i⟩,⟨10,none,.int .i64 S.length⟩,⟨9,none,.sl 9 S.length (GN.row S) none⟩,⟨2,none,.own 3 0⟩,⟨1,none,.clo 18 [.own 0 0,.own 1 0]⟩],Sc h g (w||PN p u g (S.take i)||Wr p u g ((S.getD i GN.d).ls.take k))++[.cells 62 (SW p r L u S)]⟩,μ:=λk=>(S.getD i GN.d).ls.length-k}
  |_=>none}
 |_,_=>none
theorem f4i{p:Pt}{u:List Bool}{g:List Int->Int}{S:List Sm}{i:Nat}(hi:i<S.length):PN p u g (S.take (i+1))=(PN p u g (S.take i)||Wr p u g (S.getD i GN.d).ls):=by rw[GF (d:=GN.d) hi];simp[PN]
theorem f1p{p:Pt}{u:List Bool}{g:List Int->Int}{l:List Lo}{i:Nat}(hi:i<l.length):Wr p u g (l.take (i+1))=(Wr p u g (l.take i)||d62 g (Ui p u (l.getD i CB.d)).1 (Ui p u (l.getD i CB.d)).2):=by rw[GF (d:=CB.d) hi];simp[Wr]
theorem pLoops:HS 17 d14:=by
 refine JO {l:=[(57,c0f),(58,b9u)],h:=[(18,f38)],c2:=true} ⟨by simpa using⟨g1q,f98⟩,E2,by simpa using pChk1⟩ FLoops ILoops d14 ?_ ?_ ?_ Tryz.func17 E1 E1 E1 ?_
 .intro args own r h A;unfold d14 at h;split at h
  .rename_i x f T1 w T2 K ag hs v;split at h
   .rename_i B;obtain⟨rfl,rfl,rfl,rfl,rfl⟩:=B;simp only[Jq]at h;obtain⟨⟨q,p,C,L,u,S⟩,hx,rfl⟩:=h;obtain⟨⟨c,e⟩,j,m⟩:=A;obtain⟨E,F⟩:=c6d hx j;refine⟨((p,C,L,u,S),hs,To v,w),⟨E,⟨rfl,rfl⟩,Jm⟩,rfl,⟨⟨Em,E7,Jm⟩,⟨Em,E7,Jm⟩,⟨⟨rfl,rfl⟩,λ_=>rfl,λq _=>c q⟩,Jm⟩,⟨F,m,e⟩,rfl,rfl,rfl⟩
   .cases h
  .cases h
 .exact Bz
 .intro i;show 3<=3;decide
 .rintro⟨⟨p,r,L,u,S⟩,hs,g,w⟩ μ ⟨⟨c,e,j,m⟩,n,o⟩;refine X0a _ ?_;(repeat' first|constructor|intro h)<;>refine Lm ?_
  refine⟨(0:Nat),Jw _,?_,?_⟩
  .exact X2
  .intro i t;replace t:i<=S.length:=t;have G:i<S.length->(S.getD i GN.d).ls.length<=100000/\∀x∈(S.getD i GN.d).ls,0<=x.b/\x.b<u.length:=λh=>n _ (DP h);refine X0a _ ?_;(repeat' first|constructor|intro h)<;>refine Lm ?_
   all_goals(try simp only[Ir]at*)
   all_goals(try first
    |exact Ap
    |exact λ_=>Jm
    |exact Bs
    |(rw[Lq Dz];done))
   .have y:i<S.length:=Dz;obtain⟨hl1,H⟩:=G y;refine⟨(0:Nat),Jw _,?_,?_⟩
    .exact X2
    .intro k z;replace z:k<=(S.getD i GN.d).ls.length:=z;have hx:k<(S.getD i GN.d).ls.length->0<=((S.getD i GN.d).ls.getD k CB.d).b/\((S.getD i GN.d).ls.getD k CB.d).b<u.length:=λh=>H _ (DP h);refine X0a _ ?_;(repeat' first|constructor|intro h)<;>refine Lm ?_
     all_goals(try simp only[Ir,RT.lst_row]at*)
     all_goals(try first
      |exact Ap
      |exact⟨⟨⟨FT _,c⟩,MS L e,⟨EJ.isL_row _,j⟩,GN.isL_row _,m⟩,hx Dz⟩
      |exact⟨λ_=>rfl,o⟩)
     .have s:k<(S.getD i GN.d).ls.length:=Dz;refine⟨k+1,by show k+1<=_;omega,Gc,?_⟩;refine X0a _ ?_;(repeat' first|constructor|intro h)<;>refine Lm ?_
      all_goals first|exact Ad|(rw[f1p s,<-Bool.or_assoc];rfl)|skip
     .have s:k=(S.getD i GN.d).ls.length:=Dz;subst s;refine⟨i+1,Eg,Ed,?_⟩;refine X0a _ ?_;(repeat' first|constructor|intro h)<;>refine Lm ?_
      all_goals first|exact Ad|(rw[f4i y,Kw,Bool.or_assoc];done)|skip
section
variable{p:Pt}{r:Mv}{L:List Stk}
theorem d45(S:SkOK p r L):(FW p r).length=AF p.W p.H:=by unfold FW;rw[List.length_map];exact S.P.pl
theorem ofS_ok(b:prOK p r)(c:DV L)(h:EO p r L=0):WP p L (FW p r) (GT p r L)/\f88 (GT p r L)/\loIn (FW p r) (GT p r L):=by
 have S:=Xa h b.2.1 c.2.1;have hN:=CG S.hs;have e:=Uq (CW p r L) (3*AF p.W p.H);have hu:=d45 S;have hk:(EH p r L).length=(FL (CW p r L) (3*AF p.W p.H)).length:=b52;have one:∀s∈GT p r L,∃t,t∈FL (CW p r L) (3*AF p.W p.H)/\s=MJ (CW p r L) t:=by
  intro s hs;obtain⟨i,g,rfl⟩:=OX (d:=BM) hs;have f:i<(EH p r L).length:=by rw[<-c0i h];exact g
  exact⟨_,DP (d:=BM) (Oh (WU f)),c5m h f⟩
 refine⟨⟨b.1.1,c.1,Dz,by rw[c0i h];omega⟩,λs hs=> ?_,λs hs=> ?_⟩
 .obtain⟨t,a,rfl⟩:=one s hs;obtain⟨j,k,_⟩:=e.2 t a;exact⟨Hw,Hw⟩
 .obtain⟨t,a,rfl⟩:=one s hs;obtain⟨j,k,_⟩:=e.2 t a;refine⟨Hw,λx hx=> ?_⟩;have:=((Ye S _ (Jp _) t a).ls x ((Qn _ _ _).1 hx)).2.1.2;unfold AW at this;omega
end
theorem IV(p:Pt):(⟨p.W,p.H,p.l⟩:Pt)=p:=rfl
theorem IM(r:Mv):(⟨r.t,r.x,r.y⟩:Mv)=r:=rfl
def OJ(l:List Cr)(q:List Int):Int:=l.foldl (λa c=>if HL q c=true then c.k else a) 0
theorem c9x{l:List Cr}{i:Nat}(hi:i<l.length)(q:List Int):OJ (l.take (i+1)) q=if HL q (l.getD i d0)=true then(l.getD i d0).k else OJ (l.take i) q:=by
 have:l.take (i+1)=l.take i++[l.getD i d0]:=by rw[Lz];congr 1;simp[hi]
 unfold OJ;rw[this,List.foldl_append];rfl
theorem f8m{l:List Cr}{i:Nat}(hi:i<l.length)(q:List Int):EN (decide (q=[(l.getD i d0).c,(l.getD i d0).e])) [SV.int .u8 (l.getD i d0).k] [SV.int .u8 (OJ (l.take i) q)]=[SV.int .u8 (OJ (l.take (i+1)) q)]:=by
 rw[c9x hi];unfold HL;by_cases e:q=[(l.getD i d0).c,(l.getD i d0).e]
 .rw[K3 e,Ji rfl];rfl
 .rw[K4 e,Jj Ng];rfl
theorem f6x{l:List Cr}{q:List Int}(h:EU l q=false):OJ l q=0:=by
 have:∀(l:List Cr) (a:Int),l.any (HL q)=false->l.foldl (λa c=>if HL q c=true then c.k else a) a=a:=by
  intro l;induction l with
  |nil=>intro a _;rfl
  |cons c l b=>
   intro a h;simp only[List.any_cons,M6]at h;simp only[Mk,h.1,J5];exact b a h.2
 exact this l 0 h
def CL(p:Pt)(r:Mv)(L:List Stk):Int:=
 if¬EO p r L=0 then EO p r L else if¬Ot L (GT p r L)=0 then Ot L (GT p r L)else if PN p (FW p r) (OJ p.l) (GT p r L)=true then 13 else 0
def RU:AH
 | [x]=>(MZ x).map λq=>(q.1,.int .i64 (CL q.2.1 q.2.2.1 q.2.2.2))
 |_=>none
def FCheck:Fam:=⟨Pt×Mv×List Stk,λ(p,r,L)=>[.agg (Co p r L)],λ(p,r,L)=>prOK p r/\DV L,λ(p,r,L)=>.int .i64 (CL p r L)⟩
def ICheck:Pt×Mv×List Stk->Nat->Option Inv
 |(p,r,L),9=>some {β:=Nat,ok:=λi=>i<=p.l.length,st:=λi=>⟨[⟨28,none,.int .i64 i⟩,⟨27,none,.int .i64 p.l.length⟩,⟨26,none,.sl 3 p.l.length (Eo p.l) none⟩,⟨6,none,.own 3 0⟩,⟨3,none,.own 1 0⟩],[.cells 39 (Co p r L),.cells 62 (SW p r L (FW p r) (GT p r L)),.map (.ints [.i64,.u8]) false (EU (p.l.take i)) (λq=>[.int .u8 (OJ (p.l.take i) q)]),.cells 66 [.omp 2]]⟩,μ:=λi=>p.l.length-i}
 |_,_=>none
theorem d31:PS 6 RU:=by
 refine LV {l:=[(15,f31),(16,b1q)],h:=[(17,d14)],c2:=true} ⟨by simpa using⟨pLook,d25⟩,E2,by simpa using pLoops⟩ FCheck ICheck RU ?_ ?_ Tryz.func6 E1 E1 E1 ?_
 .intro args pre s h n;unfold RU at h;split at h
  .simp only[It]at h;obtain⟨⟨q,p,r,L⟩,hx,rfl,rfl⟩:=h;obtain⟨h1,h2,h3⟩:=QQ hx n;exact Ci
  .cases h
 .exact C0
 .rintro⟨p,r,L⟩ ⟨a,d⟩;refine X0a _ ?_;(repeat' first|constructor|intro h)<;>refine Lm ?_
  all_goals(try simp only[CE,RT.lst_row,IV,IM]at*)
  .exact⟨⟨⟨FT _,a.1.1⟩,a.1.2,a.2⟩,MS L d.1,d.2⟩
  .exact(Ji E6).symm
  all_goals
   have e:EO p r L=0:=by first|(simpa using h;done)|(rename_i h1;simpa using h1;done)
   have c0:¬¬EO p r L=0:=λo=>o e;obtain⟨⟨k1,k2,k3,k4⟩,k5,k6⟩:=ofS_ok a d e;simp only[zP,zR,zL,Ji e]at*
  .exact⟨⟨⟨FT _,k1⟩,MS L k2,⟨EJ.isL_row _,k3⟩,GN.isL_row _,k4⟩,k5⟩
  .have c:¬Ot L (GT p r L)=0:=E6;unfold CL;rw[Jj c0,Ji c]
  .have c:¬¬Ot L (GT p r L)=0:=E6;refine⟨(0:Nat),Jw _,?_,?_⟩
   .refine X0a _ ?_;(repeat' first|constructor|intro h)<;>refine Lm ?_
    all_goals first|exact Ad|(intro q;first|rfl|(intro g;exact absurd g (by simp[EU])))|skip
   .intro i k;replace k:i<=p.l.length:=k;refine X0a _ ?_;(repeat' first|constructor|intro h)<;>refine Lm ?_
    all_goals(try simp only[Ir,CE,RT.lst_row,IV]at*)
    all_goals(try first
     |omega
     |(simp only[AD];have:=a.1.1;omega)
     |exact⟨⟨λ_=>rfl,λ_ g=>f6x g⟩,⟨⟨FT _,k1⟩,MS L k2,⟨EJ.isL_row _,k3⟩,GN.isL_row _,k4⟩,k6⟩)
    .have m:i<p.l.length:=Dz;refine⟨i+1,Eg,Ed,?_⟩;refine X0a _ ?_;(repeat' first|constructor|intro h)<;>refine Lm ?_
     all_goals first|exact Ad|exact λq=>b83 m q|exact λq _=>f8m m q|skip
    .have j:i=p.l.length:=Dz;subst j;have b:(false||PN p (FW p r) (OJ (List.take p.l.length p.l)) (GT p r L))=true:=h;rw[Kw,Nm]at b;unfold CL;rw[Jj c0,Jj c,Ji b]
    .have j:i=p.l.length:=Dz;subst j;have b:(false||PN p (FW p r) (OJ (List.take p.l.length p.l)) (GT p r L))=false:=h;rw[Kw,Nm]at b;unfold CL;rw[Jj c0,Jj c,Jj (by rw[b];decide)]
def PV(k C:Int)(s:Stk):Int:=RL k C s.c.x s.c.y s.c.q
def Qw(k C:Int)(s:Stk):Int:=NH k C s.c.x s.c.y s.c.q
theorem f5n(k C:Int)(s:Stk):PV k C s=0\/PV k C s=1:=by
 unfold PV RL;split
 .cases Rn k C s.c.x s.c.y s.c.q
  .exact .inl rfl
  .exact .inr rfl
 .exact .inl rfl
def BE(k C d:Int)(L:List Stk):List Stk:=L.filter λs=>decide (PV k C s=d)
def splBad(k C:Int)(L:List Stk):Bool:=L.any λs=> !decide (Qw k C s=0)
def QN(k C:Int)(L:List Stk):Int:=if AQ k C=0/\splBad k C L=false then 0 else 1
theorem d0z{k C d:Int}{L:List Stk}{i:Nat}(h:i<L.length)(a:PV k C (L.getD i AA.d)=d):BE k C d (L.take (i+1))=BE k C d (L.take i)++[L.getD i AA.d]:=by rw[GF (d:=AA.d) h];unfold BE;rw[List.filter_append];generalize L.getD i AA.d=x at*;simp[a]
theorem c1z{k C d:Int}{L:List Stk}{i:Nat}(h:i<L.length)(a:PV k C (L.getD i AA.d)≠d):BE k C d (L.take (i+1))=BE k C d (L.take i):=by rw[GF (d:=AA.d) h];unfold BE;rw[List.filter_append];generalize L.getD i AA.d=x at*;simp[a]
theorem d90{k C d:Int}{L:List Stk}{i:Nat}:(BE k C d (L.take i)).length<=L.length:=by unfold BE;exact Ch
theorem g08{k C:Int}{L:List Stk}{i:Nat}(h:i<L.length)(a:¬Qw k C (L.getD i AA.d)=0):QN k C L=1:=by unfold QN;rw[Jj];rintro⟨_,b⟩;exact K2.1 b _ (DP (d:=AA.d) h) (by rw[K4 a];rfl)
theorem d0d{k C:Int}{L:List Stk}(a:AQ k C=0)(h:∀j,j<L.length->Qw k C (L.getD j AA.d)=0):QN k C L=0:=by unfold QN;rw[Ji];refine⟨a,K2.2 λs hs=> ?_⟩;obtain⟨i,b,rfl⟩:=OX (d:=AA.d) hs;rw[h i b];decide
theorem f7c{A:List Stk}{x:Stk}{c:List SV}(a:Th c (AA.sv x)):∀j,j<A.length+1->Hl (if j<A.length then AA.row A j else(List.map (λx:Nat×List SV=>x.snd) [(0,c)].reverse).getD (j-A.length) []) (AA.row (A++[x]) j):=by
 intro j hj;by_cases e:j<A.length
 .rw[Ji e];left;simp[RT.row,Jt e]
 .have:j=A.length:=Dz;subst this;rw[Jj e];right;have b:AA.row (A++[x]) A.length=AA.sv x:=by simp[RT.row]
  rw[b,L3];exact a
def Qd(e:Int)(A:List Stk):List Stk:=if e=0 then A else []
def f7b(k C:Int)(L:List Stk):SV:=.tup [EW (Qd (QN k C L) (BE k C 0 L)),EW (Qd (QN k C L) (BE k C 1 L)),.int .i64 (QN k C L)]
def VJ:AH
 | [x,.agg [.int .u8 k,.int .i64 C]]=>(LB x).map λq=>(q.1/\∀s∈q.2,0<=s.c.q,f7b k C q.2)
 |_=>none
def FSplit:Fam:=⟨List Stk×Int×Int,λ(L,k,C)=>[EW L,.agg [.int .u8 k,.int .i64 C]],λ(L,_,_)=>CT L/\∀s∈L,0<=s.c.q,λ(L,k,C)=>f7b k C L⟩
def ISplit:List Stk×Int×Int->Nat->Option Inv
 |(L,k,C),6=>some {β:=Nat,ok:=λi=>i<=L.length/\AQ k C=0/\∀j,j<i->Qw k C (L.getD j AA.d)=0,st:=λi=>⟨[⟨23,none,.int .i64 i⟩,⟨22,none,.int .i64 L.length⟩,⟨21,none,EW L⟩,⟨7,none,.own 1 0⟩,⟨3,none,.own 0 0⟩],[.cells 27 [.int .u8 k,.int .i64 C],.cells 142 [.osl 3,.osl 4],.dead,.row 121 4 (BE k C 0 (L.take i)).length (AA.row (BE k C 0 (L.take i))) none,.row 121 4 (BE k C 1 (L.take i)).length (AA.row (BE k C 1 (L.take i))) none]⟩,μ:=λi=>L.length-i,nl:=[.cell 1 0 121 4,.cell 1 1 121 4]}
 |_,_=>none
theorem pSplit:PS 21 VJ:=by
 refine LV {l:=[(20,SM),(59,YM),(60,b73),(61,Yj)],c2:=true,gr:=λid=>bif Nat.beq id 8 then [.two 12]else bif Nat.beq id 1000 then [.fz 3,.fz 4]else []} ⟨by simpa using⟨g42,c4a,d4s,b8m⟩,E2,E2⟩ FSplit ISplit VJ ?_ ?_ Tryz.func21 E1 E1 E1 ?_
 .intro args pre s h r;unfold VJ at h;split at h
  .rename_i x k C;simp only[It]at h;obtain⟨⟨q,L⟩,hx,rfl,rfl⟩:=h;obtain⟨v,w⟩:=PC hx r.1;exact⟨(L,k,C),⟨v,Ee,Jm⟩,⟨w,r.2⟩,rfl⟩
  .cases h
 .exact Bz
 .rintro⟨L,k,C⟩ ⟨t,y⟩;refine X0a _ ?_;(repeat' first|constructor|intro h)<;>refine Lm ?_
  all_goals(try(have e:QN k C L=1:=(Jj (λz=>by have a:=z.1;rw[K3 a]at h;cases h));first|(simp[Qd,e];done)|exact e.symm))
  have a:AQ k C=0:=E6;refine⟨(0:Nat),⟨Jw _,a,λj hj=>absurd hj (K5 _)⟩,?_,?_⟩
  .refine X0b _ ?_;(repeat' first|constructor|intro h)<;>refine Lm ?_
   all_goals first|exact A2|exact A5|exact Af|skip
  .intro i A;obtain⟨u,_,m⟩:=A;replace u:i<=L.length:=u;have hl:=t.1;have hx:i<L.length->0<=(L.getD i AA.d).c.q/\(L.getD i AA.d).l.length<=100000:=λh=>⟨y _ (DP h),t.2 _ (DP h)⟩
   have hA:=@d90 k C 0 L i;have hB:=@d90 k C 1 L i;refine X0b _ ?_;(repeat' first|constructor|intro h)<;>refine Lm ?_
   all_goals(try simp only[Ir,RT.lst_row]at*)
   all_goals(try first
    |omega
    |exact(hx Dz).1
    |exact f5n k C (L.getD i AA.d)
    |(have hb:(!decide (Qw k C (L.getD i AA.d)=0))=true:=by assumption
      have e:QN k C L=1:=g08 (i:=i) Dz Gj;first|(simp[Qd,e];done)|exact e.symm)
    |exact⟨AC.isL_row _,(hx Dz).2⟩
    |exact A7
    |exact A6)
   .have b:i<L.length:=Dz;have f:PV k C (L.getD i AA.d)=0:=E5;have n:PV k C (L.getD i AA.d)≠1:=by rw[f];decide
    have o:Qw k C (L.getD i AA.d)=0:=by have hb:(!decide (Qw k C (L.getD i AA.d)=0))=false:=E5;simpa using hb
    refine⟨i+1,⟨Dz,a,λj hj=> ?_⟩,Ed,?_⟩
    .by_cases e:j<i
     .exact m j e
     .have:j=i:=Dz;subst this;exact o
    .simp only[d0z b f,c1z b n,J4];exact X2a
   .have b:i<L.length:=Dz;have f:PV k C (L.getD i AA.d)=1:=E5;have n:PV k C (L.getD i AA.d)≠0:=by rw[f];decide
    have o:Qw k C (L.getD i AA.d)=0:=by have hb:(!decide (Qw k C (L.getD i AA.d)=0))=false:=E5;simpa using hb
    refine⟨i+1,⟨Dz,a,λj hj=> ?_⟩,Ed,?_⟩
    .by_cases e:j<i
     .exact m j e
     .have:j=i:=Dz;subst this;exact o
    .simp only[d0z b f,c1z b n,J4];exact X2a
   all_goals
    have e:QN k C L=0:=d0d a λj hj=>m j Dz;have B:i=L.length:=Dz;subst B;try simp only[Kw,Qd,Ji e]
    first|exact A8|exact A5|exact e.symm|skip
section
open Go.RowKit
theorem Fr.putObj{X:Nat->Prop}{B:Nat}{w W:World}{l:Nat}{o:Obj}(h:Fr B X w W)(hl:B<=l):Fr B X w (W.putObj l o):=
 h.trans ⟨rfl,rfl,rfl,λ_=>Jp _,E2,λi hi _=>World.putObj_heap_other Dz⟩
def SeqL{α:Type}(F:Fence)(n:Nat)(P:Program)(gf:Nat)(lb:Array Value)(c:α->Array Value)(xs:List α)(A:World->Prop):Prop:=
 ∀(l:Nat) (J:List α->World->Prop) (W:World),(∀s W,J s W->A W)->(∀s W b,J s W->Fr W.heap.size (λ_=>False) W b->J s b)->J [] W->
  (∀a x d f,xs=a++x::d->J a f->YieldAt F (n-1) P l (c x) f λe b=>e=.returned (.bool true)/\J (a++[x]) b)->
  CallsIn F n P gf (#[.func (.yield l) #[] #[]]++lb) W λe b=>(∃v,e=.returned v)/\J xs b
def roundL{α:Type}(B:Nat)(I:List α->World->Prop)(xs:List α)(W:World):Exit->Act->World->Prop
 |.normal,_,a=>KeepsFrom B W a/\I xs a
 |_,_,_=>False
theorem d26{F:Fence}{n:Nat}{P:Program}{α:Type}{g:Operand}{ps:Array Tmp}{assign body:Code}{Q:Exit->Act->World->Prop}{a:Act}{w:World}
 (R:F.round=none) (h1:1<=n) {gf:Nat} {lb:Array Value} (hg:a.eval g=.func (.func gf) #[] lb) (S:F.fn gf) (eg:∀args w,(callFunc gf args).run P w=.ok (.enter gf args) w)
 {c:α->Array Value} {xs:List α} {A:World->Prop} (H:SeqL F (n-1) P gf lb c xs A) (V5:∀x,(c x).size=ps.size)
 (I:List α->World->Prop) (hA:∀s W,I s W->A W) (T:∀s W d,I s W->Fr W.heap.size (λ_=>False) W d->I s d) (q:∀s W l o U,I s W->w.heap.size<=l->W.heap[l]?=some o->o.isCells=false->I s (W.putObj l U))
 (h0:I [] w) (M:α->Act->World->Prop) (V:∀x j W l o U,M x j W->w.heap.size<=l->W.heap[l]?=some o->o.isCells=false->M x j (W.putObj l U))
 (hassign:∀(l:Nat) (b:List α) (x:α) (W:World) (K:Act->World->Prop),I b W->(∀j d,KeepsFrom w.heap.size W d->I b d->M x j d->K j d)->
   assign.wpIn (F.inRound l) (n-1-1) P (Exit.then K (λ_ _ _=>False)) {tmps:=(ps.zip (c x)).foldl (λt (p,v)=>t.setIfInBounds p v) a.tmps,defers:=[]} W)
 (r:∀(l:Nat) (b:List α) (x:α) (u:List α) (j:Act) (W:World),xs=b++x::u->I b W->M x j W->body.wpIn (F.inRound l) (n-1-1) P (roundL w.heap.size I (b++[x]) W) j W)
 (y:∀(D:Nat) (W:World),w.heap.size<=D->I xs W->W.heap[D]?=some (.deferred (some []))->Q .normal {a with defers:={target:=.collected D,args:=#[]}::a.defers} W):
 (Code.rangeFunc g ps assign body).wpIn F n P Q a w:=by
 refine wpIn_rangeFunc ?_;intro fn Z1;rw[R];obtain⟨rec,z⟩:∃rec:LoopState->Option Code->Loop,rec=λst pe=>{state:=st,pending:=pe,fn,tmps:=a.tmps,params:=ps,assign,body,defers:=w.heap.size}:=⟨_,rfl⟩
 obtain⟨m,N⟩:∃m,(w.alloc (.deferred (some []))).alloc (.loop (rec .ready none))=m:=⟨_,rfl⟩
 have X:m.heap[w.heap.size+1]?=some (.loop (rec .ready none)):=by rw[<-N];have:=World.alloc_heap_new (w.alloc (.deferred (some []))) (.loop (rec .ready none));rwa[World.size_alloc]at this
 have Y:m.heap[w.heap.size]?=some (.deferred (some [])):=by rw[<-N];exact(Below.heap_alloc _ _ _ E2).trans (World.alloc_heap_new w _)
 have Z:I [] m:=by rw[<-N];exact T _ _ _ (T _ _ _ h0 (Fr.alloc _ (Jp _))) (Fr.alloc _ (Jp _))
 refine⟨w.heap.size+1,[{target:=.collected w.heap.size,args:=#[]}],m,{target:=.fn (.func gf) lb,args:=#[.func (.yield (w.heap.size+1)) #[] #[]]},m,gf,
  #[.func (.yield (w.heap.size+1)) #[] #[]]++lb,m,?_,?_,?_,?_,λ_=>h1,?_⟩
 .rw[<-N,z];exact run_enterLoop_outer _ _ _ _ _
 .simp only[resolve,hg];simp[go_sem]
 .intro f' vn;simp[Target.leads]at vn;subst vn;exact S
 .simp[invoke,go_sem,eg]
 .have keep:∀{A B:World} {k:Nat} {o:Obj},Fr A.heap.size (λ_=>False) A B->A.heap[k]?=some o->B.heap[k]?=some o:=λJ i=>(J.block _ (K7.1 i).1 (λh=>h)).trans i;refine(H (w.heap.size+1)
   (λb W=>I b W/\W.heap[w.heap.size+1]?=some (.loop (rec .ready none))/\W.heap[w.heap.size]?=some (.deferred (some [])))
   m (λs W h=>hA s W h.1) (λs W d h J=>⟨T s W d h.1 J,keep J h.2.1,keep J h.2.2⟩) ⟨Z,X,Y⟩ ?_).mono ?_
  .rintro b x u W jm ⟨E,f,i⟩;have O:w.heap.size+1<W.heap.size:=(K7.1 f).1;have hy:=run_yield (P:=P) (args:=c x) f (by rw[z];exact V5 x);rw[z]at hy;refine⟨fn,_,assign,body,hy,roundIn_of_wpIn Z1 (hassign _ b x W _ E λj d dh b8 C=> ?_)⟩;replace f:d.heap[w.heap.size+1]?=some (.loop (rec .ready none)):=dh.same _ _ Dz f rfl;replace i:d.heap[w.heap.size]?=some (.deferred (some [])):=dh.same _ _ (Jp _) i rfl;replace O:w.heap.size+1<d.heap.size:=(K7.1 f).1;clear E hy dh;revert b8 C f i O;generalize d=W;intro E C f i O;refine⟨_,run_beginRound f (by rw[z]),?_⟩;have we:(W.putObj (w.heap.size+1) (.loop {rec .ready none with state:=.busy})).heap[w.heap.size+1]?=some (.loop {rec .ready none with state:=.busy}):=World.putObj_heap_same O;have fe:(W.putObj (w.heap.size+1) (.loop {rec .ready none with state:=.busy})).heap[w.heap.size]?=some (.deferred (some [])):=(World.putObj_heap_other Dz).trans i;refine wpIn_mono (r _ b x u _ _ jm (q _ _ _ _ _ E Dz f rfl) (V _ _ _ _ _ _ C Dz f rfl)) ?_;rintro e a3 W3 G;cases e with
   |normal=>
    obtain⟨qt,j8⟩:=G;have S1:=qt.same _ _ Dz we rfl;have L:=run_endRound (P:=P) none S1;have hl4:(W3.putObj (w.heap.size+1) (.loop (rec .ready none))).heap[w.heap.size+1]?=some (.loop (rec .ready none)):=World.putObj_heap_same (K7.1 S1).1;have hk4:(W3.putObj (w.heap.size+1) (.loop (rec .ready none))).heap[w.heap.size]?=some (.deferred (some [])):=(World.putObj_heap_other Dz).trans (qt.same _ _ (Jp _) fe rfl);refine⟨.bool true,W3.putObj (w.heap.size+1) (.loop (rec .ready none)),?_,rfl,q _ _ _ _ _ j8 Dz S1 rfl,hl4,hk4⟩;rw[z]at L⊢;exact L
   |ret=>exact G.elim
   |exit id=>exact G.elim
   |goto t=>exact G.elim
   |panic chain=>exact G.elim
   |outgrown=>exact G.elim
  .rintro e W2 ⟨⟨v,rfl⟩,E,f,i⟩;have cy:(rec .ready none).state≠.busy:=by rw[z];simp
   have hpd:(rec .ready none).pending=none:=by rw[z]
   have L:=run_endLoop (P:=P) f cy;rw[hpd]at L;exact⟨none,_,L,y w.heap.size _ (Jp _) (q _ _ _ _ _ E Dz f rfl) ((World.putObj_heap_other Dz).trans i)⟩
end
section
open Go.RowKit Go.Shelf
def Ol(W H:Int)(m:Nat):Bool:=decide (AR W H (m/3:Nat) (m%3:Nat)=0)&&decide (((m/3:Nat):Int)<AE W H (m/3:Nat) (m%3:Nat))
def OT(m:Nat):Int×Int:=(((m/3:Nat):Int),((m%3:Nat):Int))
def Ll(W H:Int)(m:Nat):List (Int×Int):=((List.range m).filter (Ol W H)).map OT
def AY(W H:Int):List (Int×Int):=Ll W H (3*(CM W H).toNat)
theorem b7d{W H:Int}{m:Nat}(h:Ol W H m=true):Ll W H (m+1)=Ll W H m++[OT m]:=by simp[Ll,O4,h]
theorem d1n{W H:Int}{m:Nat}(h:Ol W H m=false):Ll W H (m+1)=Ll W H m:=by simp[Ll,O4,h]
theorem b37{W H:Int}{m:Nat}(h:Ol W H m=true)(hm:m<3*(CM W H).toNat):∃b,AY W H=Ll W H m++OT m::b:=by
 have c:List.range (m+1) <+: List.range (3*(CM W H).toNat):=by refine⟨(List.range (3*(CM W H).toNat-(m+1))).map (m+1+ ·),?_⟩;rw[<-List.range_add];congr 1;omega
 obtain⟨t,a⟩:=(c.filter (Ol W H)).map OT;replace a:Ll W H (m+1)++t=AY W H:=a;rw[b7d h]at a;exact⟨t,by rw[<-a];simp⟩
theorem d9c{W H:Int}(i k:Nat)(hk:k<3):Ol W H (3*i+k)=(decide (AR W H i k=0)&&decide ((i:Int)<AE W H i k))/\OT (3*i+k)=((i:Int),(k:Int)):=by have a:(3*i+k)/3=i:=Dz;have b:(3*i+k)%3=k:=Dz;simp[Ol,OT,a,b]
def Rv(w:World):Prop:=∀g t,QA g=some t->t.pure=true/\D w (λ_=>False) BT t (.pointer (some ⟨g,0,none⟩))
theorem Rv.grow{w w':World}(h:Rv w)(a:Fr w.heap.size (λ_=>False) w w'):Rv w':=λg t e=>⟨(h g t e).1,(h g t e).2.keep ⟨a.size,λb c _=>a.block b c (λh=>h),λ_ _ h=>h,λ_ _ h=>h⟩⟩
def MT(bx:Nat)(W H:Int)(w:World):Prop:=w.heap[bx]?=some (.cells #[.int .i64 W,.int .i64 H] 31 (0,0))
theorem MT.c0{bx:Nat}{W H:Int}{w:World}(h:MT bx W H w):w.cell? ⟨bx,0,none⟩=some (.int .i64 W):=by simp[World.cell?,show w.heap[bx]?=_ from h]
theorem MT.c1{bx:Nat}{W H:Int}{w:World}(h:MT bx W H w):w.cell? ⟨bx,1,none⟩=some (.int .i64 H):=by simp[World.cell?,show w.heap[bx]?=_ from h]
theorem b9t{w:World}{W H:Int}:DL w (λ_=>False) BT [.agg [.int .i64 W,.int .i64 H]] [.agg #[.int .i64 W,.int .i64 H]]:=by
 refine⟨rfl,λi s v hs a=> ?_⟩;match i,hs,a with
 |0,hs,a=>
  cases hs;cases a;refine .agg [.int .i64 W,.int .i64 H] rfl (λi s v hs a=> ?_);match i,hs,a with
  |0,hs,a=>cases hs;cases a;exact .int
  |1,hs,a=>cases hs;cases a;exact .int
theorem c6n{n:Nat}{W H:Int}{w:World}(c:Rv w):CallsIn Fence.wide n Tryz.prog 108 #[.agg #[.int .i64 W,.int .i64 H]] w λe a=>e=.returned (.int .i64 (CM W H))/\Fr w.heap.size (λ_=>False) w a:=by refine callsIn_wide.2 ((c8c.2 (λ_=>False) w [.agg [.int .i64 W,.int .i64 H]] [.agg #[.int .i64 W,.int .i64 H]] True _ (λb h=>h.elim) c b9t rfl trivial).mono ?_);rintro e a ⟨v,rfl,d,f⟩;cases d;exact⟨rfl,f⟩
theorem b13{n:Nat}{W H i e:Int}{w:World}(k:Rv w)(l:0<=e):CallsIn Fence.wide n Tryz.prog 32 #[.agg #[.int .i64 W,.int .i64 H],.int .i64 i,.int .u8 e] w λd f=>d=.returned (.tuple #[.int .i64 (AE W H i e),.int .i64 (AR W H i e)])/\Fr w.heap.size (λ_=>False) w f:=by
 refine callsIn_wide.2 ((UT.2 (λ_=>False) w [.agg [.int .i64 W,.int .i64 H],.int .i64 i,.int .u8 e] [.agg #[.int .i64 W,.int .i64 H],.int .i64 i,.int .u8 e] (0<=e) _ (λb h=>h.elim) k ?_ rfl l).mono ?_)
 .refine⟨rfl,λj s v hs c=> ?_⟩;match j,hs,c with
  |0,hs,c=>exact b9t.2 0 s v hs c
  |1,hs,c=>cases hs;cases c;exact .int
  |2,hs,c=>cases hs;cases c;exact .int
 .rintro d f ⟨v,rfl,c,m⟩;cases c with
  |tup o p g=>
   match o,p with
   | [a,b],_=>
     have q:=g 0 _ a rfl rfl;have r:=g 1 _ b rfl rfl;cases q;cases r;exact⟨rfl,m⟩
attribute [local go_sem] Oper.semAt_some
def Rb:Value->Nat
 |.int _ z=>z.toNat
 |_=>0
theorem b4k(k:IntKind)(z:Int):Rb (.int k z)=z.toNat:=rfl
theorem f93 {n bx : Nat} {W H : Int} (jz : AV W H = 0) : SeqL Fence.wide n Tryz.prog 133 #[.pointer (some ⟨bx, 0, none⟩)] (λu : Int × Int => #[.agg #[.int .i64 u.1, .int .u8 u.2]]) (AY W H) (λw => Rv w ∧ MT bx W H w) := by
  intro l J w a b s B
  have z := OB jz
  have qx : CM W H = 4 * W * H := H0
  refine callsIn_of_wp Tryz.func133 rfl trivial ?_ rfl
  simp only [Tryz.ntmps133, Jc, Nat.reduceAdd, Nat.reduceSub]
  have m := a _ _ s
  have c0 := m.2.c0
  have c1 := m.2.c1
  gi_wp2_with (refine ⟨Jm, λh => E9, ?_⟩; refine (c6n m.1).mono ?_; rintro e w1 ⟨rfl, C⟩)
  have o := b _ _ _ s C
  gi_loopw [9] (λv wr => ∃ i : Nat, v = .int .i64 i ∧ i ≤ (CM W H).toNat ∧ J (Ll W H (3 * i)) wr) (λv _ => (CM W H).toNat - Rb v)
  case atStart =>
    exact ⟨0, rfl, Jw _, o⟩
  case round =>
    obtain ⟨i, rfl, hi, d⟩ := hrel
    have hI := a _ _ d
    gi_wp2
    · have E : decide ((i : Int) < 4 * (W * H)) = true := K3 E5
      rw [E]
      gi_loopw [12] (λv wr => ∃ k : Nat, v = .int .u8 k ∧ k ≤ 3 ∧ J (Ll W H (3 * i + k)) wr) (λv _ => 3 - Rb v)
      case atStart =>
        exact ⟨0, rfl, Dz, d⟩
      case round =>
        obtain ⟨k, rfl, hk, f⟩ := hrel
        have g := a _ _ f
        have d0 := g.2.c0
        have d1 := g.2.c1
        rcases Nd k 3 with t | t
        · obtain ⟨x, F⟩ := d9c (W := W) (H := H) i k t
          have R4 : AD .u8 k := F0
          cases hu : Ol W H (3 * i + k) with
          | true =>
            obtain ⟨q, hs⟩ := b37 hu Dz
            have y := b7d hu
            rw [F] at hs y
            rw [x] at hu
            simp only [J3] at hu
            obtain ⟨hu1, O8⟩ := hu
            gi_wp2_with (refine ⟨Jm, λh => E9, ?_⟩; refine (b13 g.1 (Int.natCast_nonneg k)).mono ?_; rintro e A ⟨rfl, r⟩; have j := b _ _ _ f r; obtain ⟨fn, tmps, assign, body, G, I⟩ := B _ _ q A hs j; dsimp only at G)
            all_goals (try omega)
            refine ⟨λh => E9, I.mono ?_⟩
            rintro e W3 ⟨rfl, c⟩
            rw [← y] at c
            gi_wp2
            refine ⟨?_, ?_⟩
            · exact ⟨k + 1, E2, Dz, c⟩
            · show 3 - Rb (.int .u8 (k + 1)) < 3 - Rb (.int .u8 k)
              simp only [b4k]; omega
          | false =>
            have K := d1n hu
            rw [x] at hu
            gi_wp2_with (refine ⟨Jm, λh => E9, ?_⟩; refine (b13 g.1 (Int.natCast_nonneg k)).mono ?_; rintro e A ⟨rfl, r⟩; have j := b _ _ _ f r)
            all_goals (try omega)
            all_goals (try (exfalso; simp_all; done))
            all_goals (refine ⟨λ_ h => E9, ?_⟩)
            all_goals gi_wp2
            all_goals rw [← K] at j
            all_goals refine ⟨?_, ?_⟩
            all_goals first
              | (show 3 - Rb (.int .u8 (k + 1)) < 3 - Rb (.int .u8 k)
                 simp only [b4k]; omega)
              | exact ⟨k + 1, E2, Dz, j⟩
        · gi_wp2
          all_goals (try omega)
          have L : 3 * (i + 1) = 3 * i + k := Dz
          refine ⟨⟨i + 1, E2, Dz, by rw [L]; exact f⟩, ?_⟩
          show (CM W H).toNat - Rb (.int .i64 (i + 1)) < (CM W H).toNat - Rb (.int .i64 i)
          rw [b4k, b4k]
          omega
    · go_end0
      refine ⟨⟨_, rfl⟩, ?_⟩
      have e : i = (CM W H).toNat := Dz
      rw [e] at d
      exact d
end
section
open Go.RowKit
def Px(w:World)(v:Value):Prop:=∀g k b a T z,v=.slice (some ⟨g,0,none⟩) k b->w.heap[g]?=some (.cells a T z)->∀u∈a.toList,u.oneCell'=true
theorem d0m{z:Array Value}(h:∀u∈z.toList,u.oneCell'=true)(n:Nat):∀u∈(Builtin.zeroCells z n).toList,u.oneCell'=true:=by
 intro u a;unfold Builtin.zeroCells at a;rw[Nu,Jx]at a;obtain⟨i,hi,rfl⟩:=a;have b:i<n*z.size:=Et;have c:0<z.size:=by
  rcases Kt z.size with e|e
  .rw[e]at b;simp at b
  .exact e
 have d:=Nq i c;rw[L6 z _ d];exact h _ E2
theorem b7r{P:Program}(w:World)(base:Nat)(t ty e:TypeId)(i:TypeInfo)(z:Value)(b bytes:Nat)(H:P.underlying t=some (.slice e))(hi:P.info? e=some i)(L:i.zero=some z)
 (R:i.size=b) (S:i.bytes=bytes) (Y:z.cells.size=b) (Z:0<b) (U:∀u∈z.cells.toList,u.oneCell'=true)
 (v:Value) (n:Nat) (xs:List Value) (I:w.ownsRow base e b v n xs) (c7:Px w v)
 (a:Addr) (m c:Nat) (news:List Value) (s:news.length=m*b) (J:∀j u,news[j]?=some u->w.cell? (a.add j)=some u) (x:∀u∈news,u.oneCell'=true)
 (V:n+m<=maxLen) (M:(n+m)*bytes<=140737488355328) (l:base<=w.heap.size) (hm:0<m):
 ∃y o,(Builtin.append_ #[t,t] ty #[v,.slice (some a) m c]).run P w=.ok y o/\o.ownsRow base e b y (n+m) (xs++news)/\w.grownBy o v.ownBlock/\Px o y/\w.drawn<=o.drawn:=by
 obtain⟨y,o,q,ha,N,-⟩:=run_append_own (P:=P) w base t ty e i z b bytes H hi L R S Y Z v n xs I a m c news s J x V M l;refine⟨y,o,q,ha,N,?_⟩;subst R;subst S;have hsmall:n+m<=9223372036854775807:=by simp only[maxLen]at V;omega
 rcases I.2 with⟨rfl,rfl⟩|⟨g,d,f,rfl,hbg,A,pi,Q9,fm,v8⟩
 .have B:=run_append_nil (P:=P) w t ty e i z H hi L a m c news s J hm Dz (by have N:=M;simp only[L9]at N;omega);rw[B]at q;cases q;refine⟨?_,Nat.le_succ _⟩;intro g k d f T W C A u hu;cases C;have O:=Km ((Mt w.drew _).symm.trans A);cases O;simp only[Nz,K6]at hu;rcases hu with hu|hu
  .exact x u Fz
  .exact d0m U _ u hu
 .have Q:=c7 g n d f e (0,0) rfl A;have jm:∀u∈xs,u.oneCell'=true:=λu hu=>Q u (by rw[<-v8]at hu;exact M4 hu);by_cases X:n+m<=d
  .have E:n*i.size+news.length<=f.size:=by rw[s,fm,<-Ma];exact Kr _ X
   have B:=run_append_room (P:=P) w t ty e i H hi g n d f A a m c news s J x X E;rw[B]at q;cases q;refine⟨?_,Jp _⟩;intro g' k F G T W C K u hu;cases C;rw[setRow_heap w g f _ e _ A]at K;cases K;simp only[Mx,K6]at hu;rcases hu with hu|hu|hu
   .exact Q u (M4 hu)
   .exact x u hu
   .exact Q u (Nr hu)
  .have r:∀j u,xs[j]?=some u->w.cell? ((⟨g,0,none⟩:Addr).add j)=some u:=I.cells (g:=g) rfl;have B:=run_append_grow (P:=P) w t ty e i z H hi L ⟨g,0,none⟩ n d xs I.1 r a m c news s J Dz Dz (growslice_fits Dz M);rw[B]at q;cases q;refine⟨?_,Nat.le_succ _⟩;intro g' k F G T W C K u hu;cases C;have O:=Km ((Mt w.drew _).symm.trans K);cases O;simp only[Nz,K6]at hu;rcases hu with(hu|hu)|hu
   .exact jm u Fz
   .exact x u Fz
   .exact d0m U _ u hu
theorem b25{F:Fence}{n:Nat}{P:Program}(w:World){ops:Array Oper}{g:List Oper}{o:Oper}{a:Act}{Q:Exit->Act->World->Prop}
 (A:o.guard=none) (s x:Operand) (t:TypeId) (p:o.op=Op.call {callee:=Callee.builtin Builtin.append,args:=#[s,x],argTypes:=#[t,t]})
 (f:Nat) (e:TypeId) (i:TypeInfo) (z:Value) (b bytes:Nat) (B:P.underlying t=some (.slice e)) (C:P.info? e=some i) (E:i.zero=some z) (G:i.size=b) (H:i.bytes=bytes) (I:z.cells.size=b) (J:0<b) (L:∀u∈z.cells.toList,u.oneCell'=true)
 (v:Value) (k:Nat) (q:List Value) (hs:a.eval s=v) (M:w.ownsRow f e b v k q) (N:Px w v) (r:Addr) (m c:Nat) (d:List Value) (hx:a.eval x=.slice (some r) m c) (O:d.length=m*b)
 (R:∀j u,d[j]?=some u->w.cell? (r.add j)=some u) (S:∀u∈d,u.oneCell'=true) (T:k+m<=maxLen) (U:(k+m)*bytes<=140737488355328) (V:f<=w.heap.size) (W:0<m)
 (X:∀l h,h.ownsRow f e b l (k+m) (q++d)->w.grownBy h v.ownBlock->Px h l->w.drawn<=h.drawn->wpListIn F n P ops Q g (a.put o.dst l) h):
 wpListIn F n P ops Q (o::g) a w:=by
 refine wpListIn_plain A λK y=> ?_;obtain⟨l,h,Y,Z,r2,r3,r4⟩:=b7r (P:=P) w f t o.type e i z b bytes B C E G H I J L v k q M N r m c d O R S T U V W;unfold Oper.wpIn;refine⟨?_,?_⟩
 .simp[Oper.about,p,resolve,Target.leads,Sem.run_pure]
 .rw[Oper.semAt_plain F _ _ (by rw[p];intro c g8;cases g8)];simp[execOp,p,resolve,invoke,builtin,hs,hx,Y,Result.andThen];exact y _ _ (X l h Z r2 r3 r4)
end
section
open Go.RowKit Go.Shelf
attribute [local go_sem] Oper.semAt_some
theorem c6p{n:Nat}{W H:Int}{w:World}(c:Rv w):CallsIn Fence.wide n Tryz.prog 86 #[.agg #[.int .i64 W,.int .i64 H]] w λe a=>e=.returned (.int .i64 (AV W H))/\Fr w.heap.size (λ_=>False) w a:=by refine callsIn_wide.2 ((TE.2 (λ_=>False) w [.agg [.int .i64 W,.int .i64 H]] [.agg #[.int .i64 W,.int .i64 H]] True _ (λb h=>h.elim) c b9t rfl trivial).mono ?_);rintro e a ⟨v,rfl,d,f⟩;cases d;exact⟨rfl,f⟩
theorem d66{n:Nat}{W H:Int}{w:World}:CallsIn Fence.wide n Tryz.prog 87 #[.agg #[.int .i64 W,.int .i64 H]] w λe a=>e=.returned (.func (.func 133) #[] #[.pointer (some ⟨w.heap.size,0,none⟩)])/\a=w.alloc (.cells #[.int .i64 W,.int .i64 H] 31):=by
 refine callsIn_of_wp Tryz.func87 rfl trivial ?_ rfl;simp only[Tryz.ntmps87,Jc,Nat.reduceAdd,Nat.reduceSub]
 gi_wp2
 go_ret
 exact C7
theorem d1m{n g k a:Nat}{w:World}(hk:k<=a)(_:a<=maxLen):CallsIn Fence.wide n Tryz.prog 88 #[.slice (some ⟨g,0,none⟩) k a] w λe b=>e=.returned (.slice (some ⟨g,0,none⟩) k k)/\b=w:=by
 refine callsIn_of_wp Tryz.func88 rfl trivial ?_ rfl;simp only[Tryz.ntmps88,Jc,Nat.reduceAdd,Nat.reduceSub]
 gi_wp2
 go_ret
 exact C7
def NN(l:List (Int×Int)):List Value:=l.flatMap λu=>[.int .i64 u.1,.int .u8 u.2]
theorem infoU:(Tryz.prog.info? 71).map (λi=>(i.zero,i.size,i.bytes))=some (some (.agg #[.int .i64 0,.int .u8 0]),2,16):=E1
theorem d1v(l:List (Int×Int)):(NN l).length=l.length*2:=by
 induction l with
 |nil=>rfl
 |cons u l a=>
  have:NN (u::l)=[.int .i64 u.1,.int .u8 u.2]++NN l:=by simp[NN]
  rw[this,K8,a];simp;omega
theorem c67(l:List (Int×Int))(u:Int×Int):NN (l++[u])=NN l++[.int .i64 u.1,.int .u8 u.2]:=by simp[NN]
theorem WW(W H:Int):(AY W H).length<=3*(CM W H).toNat:=by unfold AY Ll;rw[Kh];exact Lr (N3 _ _) E2
theorem d4z{P:Program}{t:TypeId}{z:Value}{m b:Nat}(h:(P.info? t).map (λi=>(i.zero,i.size,i.bytes))=some (some z,m,b)):∃i,P.info? t=some i/\i.zero=some z/\i.size=m/\i.bytes=b:=by obtain⟨i,c,a⟩:=Jq.1 h;simp only[Prod.mk.injEq]at a;exact⟨i,c,a.1,a.2.1,a.2.2⟩
theorem MT.alloc{bx:Nat}{W H:Int}{w:World}(h:MT bx W H w)(o:Obj):MT bx W H (w.alloc o):=(Below.heap_alloc w o bx (K7.1 h).1).trans h
theorem f0j{w a:World}{W H:Int}(b:Fr (w.alloc (.cells #[.int .i64 W,.int .i64 H] 31)).heap.size (λ_=>False) (w.alloc (.cells #[.int .i64 W,.int .i64 H] 31)) a):MT w.heap.size W H a:=by have h:=b.block w.heap.size E2 (λh=>h);rw[World.alloc_heap_new]at h;exact h
theorem c2b{V:World}{base:Nat}{e:TypeId}{m:Nat}{v:Value}{k:Nat}{xs:List Value}(f:V.ownsRow base e m v k xs)(h:Px V v)(o:Obj):Px (V.alloc o) v:=by
 intro g k' cap b T z a i;rcases f.2 with⟨j,_⟩|⟨g2,cap2,cur2,d,hb,c,rest⟩
 .rw[j]at a;cases a
 .rw[d]at a;cases a;have:=(Below.heap_alloc V o g (K7.1 c).1).trans c;rw[i]at this;cases this;exact h g _ _ b _ _ d c
theorem d1q{V:World}{a base:Nat}{t e:TypeId}{m:Nat}{u v:Value}{k:Nat}{xs:List Value}(c:t≠e)(i:Boxed V a t u)(j:V.ownsRow base e m v k xs)(l:Px V v):Px (V.setCell ⟨a,0,none⟩ v) v:=by
 intro g k' cap d T z b n;rcases j.2 with⟨o,_⟩|⟨g2,cap2,cur2,h,hb,f,rest⟩
 .rw[o]at b;cases b
 .rw[h]at b;cases b;have p:g≠a:=λq=>by
   subst q;have:=(show V.heap[g]?=_ from i).symm.trans f;simp at this;exact c this.2
  have:=(Below.heap_setCell V ⟨a,0,none⟩ v g p).trans f;rw[n]at this;cases this;exact l g _ _ d _ _ h f
theorem d6t{V a:World}{f bx base:Nat}{t e:TypeId}{m:Nat}{u v g:Value}{k:Nat}{xs:List Value}{W H:Int}{c:Obj}(l:31≠e)(h:MT bx W H V)(n:Boxed a f t u)(o:V.ownsRow base e m v k xs)(p:(V.alloc c).grownBy a v.ownBlock):MT bx W H (a.setCell ⟨f,0,none⟩ g):=by
 have i:=h.alloc c;have q:some bx≠v.ownBlock:=λb=>by
  rcases o.2 with⟨r,_⟩|⟨s,cap2,cur2,w,hb,x,rest⟩
  .rw[r]at b;cases b
  .rw[w]at b;have y:bx=s:=by simpa[Value.ownBlock]using b
   subst y;have:=(show V.heap[bx]?=_ from h).symm.trans x;simp at this;exact l this.2
 have j:MT bx W H a:=(p.block bx (K7.1 i).1 q).trans i;have d:bx≠f:=λb=>by subst b;have:=(show a.heap[bx]?=_ from n).symm.trans j;simp at this
 exact(Below.heap_setCell a ⟨f,0,none⟩ g bx d).trans j
theorem c4h(w:World)(x y:Value)(t:TypeId):∀j u,[x,y][j]?=some u->(w.alloc (.cells #[x,y] t)).cell? ((⟨w.heap.size,0,none⟩:Addr).add j)=some u:=by
 intro j u a;match j,a with
 |0,a=>
  simp at a;subst a;simp[Addr.add]
 |1,a=>
  simp at a;subst a;simp[Addr.add]
 |j+2,a=>simp at a
theorem c30{W H:Int}(jz:AV W H=0):0<(AY W H).length:=by
 have z:=OB jz;have qx:CM W H=4*W*H:=H0;have a:IL W H 0=0:=by unfold IL;rw[Ji jz,Ji];simp[Qy];omega
 have k:Ol W H 1=true:=by
  have b:BV W H 0=0:=by unfold BV;rw[if_pos a];simp
  have c:BW W H 0=0:=by unfold BW;rw[if_pos a];simp
  have d:BZ W H 0=0:=by unfold BZ;rw[if_pos a];simp
  have e:FU 0 0 0 1=0:=E4;have f:IC 0 0 0 1=0:=E4;have g:IH 0 0 0 1=0:=E4;have i:HJ 0 0 0 1=1:=E4;have j:LK W H 0 0 1=0:=by unfold LK;rw[Ji jz,Ji ⟨E4,Dz,Dz,Dz,Dz⟩]
  have l:PP W H 0 0 1=1:=by unfold PP;rw[Ji j];omega
  have m:AR W H 0 1=0:=by unfold AR;rw[Ji a,b,c,d,Ji e,f,g,i];exact j
  have n:AE W H 0 1=1:=by unfold AE;rw[Ji a,b,c,d,Ji e,f,g,i];exact l
  have:=(d9c (W:=W) (H:=H) 0 1 Dz).1;rw[show 3*0+1=1 from rfl]at this;rw[this];rw[show ((0:Nat):Int)=0 from rfl,show ((1:Nat):Int)=1 from rfl,m,n];rfl
 obtain⟨suf,hs⟩:=b37 k Dz;rw[hs];simp;omega
theorem f67{B c:Nat}{a b:World}(h:Fr B (λ_=>False) a b)(hB:c<=B):Fr c (λ_=>False) a b:=⟨h.os,h.tape,h.output,h.drawn,h.size,λi hi hx=>h.block i Dz hx⟩
theorem b3s{base o bx:Nat}{t e:TypeId}{W H:Int}{w V b:World}{k:Nat}{xs:List Value}(h:(∃v,Boxed V o t v/\V.ownsRow base e 2 v k xs/\Px V v)/\MT bx W H V/\Fr base (λ_=>False) w V)
 (i:∀(g:Nat) (c:Array Value) (T:TypeId) (z:Nat×Nat),V.heap[g]?=some (Obj.cells c T z)->b.heap[g]?=some (Obj.cells c T z)) (r:Fr base (λ_=>False) V b):(∃v,Boxed b o t v/\b.ownsRow base e 2 v k xs/\Px b v)/\MT bx W H b/\Fr base (λ_=>False) w b:=by
 obtain⟨⟨v,s,m,u⟩,x,y⟩:=h;refine⟨⟨v,i _ _ _ _ s,⟨m.1,?_⟩,?_⟩,i _ _ _ _ x,y.trans r⟩
 .rcases m.2 with n|⟨g,f,d,rfl,p,j,a⟩
  .exact .inl n
  .exact .inr ⟨g,f,d,rfl,p,i _ _ _ _ j,a⟩
 .intro g k' f d T z l A;rcases m.2 with⟨n,_⟩|⟨g2,cap2,cur2,q,p,j,a⟩
  .rw[n]at l;cases l
  .rw[q]at l;cases l;have:=i _ _ _ _ j;rw[A]at this;cases this;exact u g _ _ d _ _ q j
theorem c5p{n:Nat}(hn:3<=n){W H:Int}(jz:AV W H=0){w:World}(f:Rv w):CallsIn Fence.wide n Tryz.prog 30 #[.agg #[.int .i64 W,.int .i64 H]] w λe Y=>∃(b:Nat) (vs:List Value),e=.returned (.tuple #[.slice (some ⟨b,0,none⟩) (AY W H).length (AY W H).length,.int .i64 0])/\w.heap.size<=b/\Y.heap[b]?=some (.cells (List.toArray vs) 71 (0,0))/\vs.take ((AY W H).length*2)=NN (AY W H)/\(∀v∈vs,v.oneCell'=true)/\Fr w.heap.size (λ_=>False) w Y:=by
 have z:=OB jz;have qx:CM W H=4*W*H:=H0;have jy:=WW W H;have hul2:3*(CM W H).toNat<=3072:=Dz;obtain⟨i0,L,M,w3,S2⟩:=d4z infoU;refine callsIn_of_wp_marks Tryz.func30 rfl trivial ?_ rfl;simp only[Tryz.ntmps30,Jc,Nat.reduceAdd,Nat.reduceSub]
 gi_wp2_with (refine⟨Jm,λh=>E9,?_⟩;first|(refine(c6p (f.grow (Fr.alloc _ (Jp _)))).mono ?_;rintro e a ⟨rfl,G⟩;have N:=f0j G;have Z:=N.alloc (.cells #[.slice none 0 0] 74);have qy:=Z.c0;have vq:=Z.c1)|(refine(d66).mono ?_;rintro e w2 ⟨rfl,rfl⟩))
 obtain⟨t,A⟩:∃t,((a.alloc (.cells #[.slice none 0 0] 74)).alloc (.cells #[.int .i64 W,.int .i64 H] 31))=t:=⟨_,rfl⟩
 have c6:t.heap.size=a.heap.size+2:=by rw[<-A];simp
 have rp:w.heap.size+1<=a.heap.size:=by have:=G.size;simpa using this
 have bO:Boxed t a.heap.size 74 (.slice none 0 0):=by rw[<-A];exact(Boxed.new a 74 (.slice none 0 0)).alloc _
 have bS:MT (a.heap.size+1) W H t:=by rw[<-A];have:=World.alloc_heap_new (a.alloc (.cells #[.slice none 0 0] 74)) (.cells #[.int .i64 W,.int .i64 H] 31);rw[World.size_alloc]at this;exact this
 have B:Fr w.heap.size (λ_=>False) w t:=by rw[<-A];have O:Fr w.heap.size (λ_=>False) w a:=(Fr.alloc _ (Jp _)).trans (f67 G E2);exact(O.trans (Fr.alloc _ Dz)).trans (Fr.alloc _ Eb)
 rw[A];refine d26 rfl Dz (gf:=133) (lb:=#[.pointer (some ⟨a.heap.size+1,0,none⟩)]) rfl trivial (enters_of Tryz.func133 E1 rfl) (f93 (bx:=a.heap.size+1) jz) (λ_=>rfl)
  (λd V=>(∃v,Boxed V a.heap.size 74 v/\V.ownsRow w.heap.size 71 2 v d.length (NN d)/\Px V v)/\MT (a.heap.size+1) W H V/\Fr w.heap.size (λ_=>False) w V)
  (λs V h=>⟨f.grow h.2.2,h.2.1⟩)
  (λs V V' h hf=>b3s h (λg c T z j=>(hf.block g (K7.1 j).1 (λh=>h)).trans j) (f67 hf h.2.2.size))
  (λs V l o o' h hl C j=>b3s h (λg c T z f=>(World.putObj_heap_other (λe=>by subst e;rw[f]at C;cases C;cases j)).trans f) (Fr.putObj (Fr.refl _ _ _) Dz))
  ⟨⟨_,bO,World.ownsRow_nil _ _ _ _,λg k P q T z u=>by cases u⟩,bS,B⟩
  (λx Q V=>∃m,a.heap.size+1<m/\V.heap[m]?=some (.cells #[.int .i64 x.1,.int .u8 x.2] 71 (0,0))/\Q={tmps:=#[.agg #[.int .i64 W,.int .i64 H],.pointer (some ⟨w.heap.size,0,none⟩),.slice none 0 0,.int .i64 0,.int .i64 0,.pointer (some ⟨a.heap.size,0,none⟩),.pointer (some ⟨m,0,none⟩),.agg #[.int .i64 W,.int .i64 H],.int .i64 0,.int .i64 0,.bool false,undef,.agg #[.int .i64 W,.int .i64 H],.func (.func 133) #[] #[.pointer (some ⟨a.heap.size+1,0,none⟩)],.agg #[.int .i64 x.1,.int .u8 x.2],undef,undef,undef,undef,undef,undef],defers:=[]})
  (λx Q V l o o' ⟨m,O,h2,h3⟩ hl C j=>⟨m,O,(World.putObj_heap_other (λe=>by subst e;rw[h2]at C;cases C;cases j)).trans h2,h3⟩) ?assign ?body ?done
 case assign=>
  rintro l d x V K R E;have b6:=R.2.2.size;have df:a.heap.size+1<V.heap.size:=(K7.1 R.2.1).1
  gi_wp2
  exact E _ _ ((KeepsOthers.alloc _ _).from _) (b3s R (λg c T z f=>(Below.heap_alloc V _ g (K7.1 f).1).trans f) (Fr.alloc _ b6)) ⟨V.heap.size,df,World.alloc_heap_new V _,rfl⟩
 case body=>
  rintro l d x suf Q V jm ⟨⟨v,u,y,S⟩,hS,I⟩ ⟨m,hBx,bX,rfl⟩;have j:=u.cell;have x0:V.cell? ⟨m,0,none⟩=some (.int .i64 x.1):=by simp[World.cell?,bX]
  have x1:V.cell? ⟨m,1,none⟩=some (.int .u8 x.2):=by simp[World.cell?,bX]
  have gu:d.length+1<=3072:=by have:=Mj List.length jm;simp only[K8,Kz]at this;omega
  have bq:=I.size
  gi_wp2_with (gi_at_builtin;refine b25 _ rfl _ _ 74 rfl w.heap.size 71 i0 (.agg #[.int .i64 0,.int .u8 0]) 2 16 Tryz.underlying74 L M w3 S2 rfl E4 (by simp[Value.cells,Value.oneCell']) _ _ _ rfl (y.alloc _) (c2b y S _) ⟨V.heap.size,0,none⟩ 1 1 [.int .i64 x.1,.int .u8 x.2] rfl rfl (c4h _ _ _ _) (by simp[Value.oneCell']) Ew Dz Eb Dz ?_;intro v' w2 U fg r zq;obtain⟨g',cap',rfl⟩:=ownsRow_succ U;obtain⟨J,ny,vu,fe,F⟩:=u.appended E4 y bq Dz U fg;have v7:=J.cell;have G:=J.frozen)
  exact⟨fe.from _,⟨_,ny,by rw[c67,K8];exact vu,d1q E4 J U r⟩,d6t E4 hS J y fg,I.trans ⟨F.os,F.tape,F.output,λ_=>zq,F.size,λi L _=>F.block i L⟩⟩
 case done=>
  rintro D V hD ⟨⟨v,u,y,S⟩,hS,I⟩ E;have j:=u.cell;have dz:=c30 jz;rcases y.2 with⟨_,h0⟩|⟨g,P,q,rfl,hb,X,pi,Q9,fm,v8⟩
  .omega
  .gi_wp2_with (refine⟨Jm,λh=>E9,?_⟩;refine(d1m pi Q9).mono ?_;rintro e w2 ⟨rfl,rfl⟩)
   have b9:g≠D:=λe=>by subst e;rw[X]at E;cases E
   refine⟨E2,.inl ⟨_,_,rfl,run_takeDeferred E,?_⟩⟩;refine⟨.tuple #[.slice (some ⟨g,0,none⟩) (AY W H).length (AY W H).length,.int .i64 0],by simp[results,Tryz.f30,go_sem],g,q.toList,rfl,hb,?_,v8,S g _ _ q _ _ rfl X,I.trans (Fr.putObj (Fr.refl _ _ _) (by have:=B.size;omega))⟩;rw[World.putObj_heap_other b9,X]
end
def DJ:RT (Int×Int):=⟨2,λu=>[.int .i64 u.1,.int .u8 u.2],λl=>match l with
 | [.int _ a,.int _ b]=>(a,b)
 |_=>(0,0),(0,0),λ_=>rfl⟩
def Xg(W H:Int):List (Int×Int):=if AV W H=0 then AY W H else []
def c97(W H:Int):SV:=.tup [.sl 2 (Xg W H).length (DJ.row (Xg W H)) none,.int .i64 (AV W H)]
def kUnE:AH
 | [.agg [.int .i64 W,.int .i64 H]]=>some (¬AV W H=0,.tup [.sl 2 0 (λ_=>[]) none,.int .i64 (AV W H)])
 |_=>none
def FUnE:Fam:=⟨Int×Int,λ(W,H)=>[.agg [.int .i64 W,.int .i64 H]],λ(W,H)=>¬AV W H=0,λ(W,H)=>.tup [.sl 2 0 (λ_=>[]) none,.int .i64 (AV W H)]⟩
theorem pUnE:PS 30 kUnE:=by
 refine con [(86,Qi)] (by simpa using TE) FUnE (λ_ _=>none) kUnE ?_ ?_ Tryz.func30 E1 E1 E1 ?_
 .intro args pre s h a;unfold kUnE at h;split at h
  .rename_i W H;cases h;exact⟨(W,H),⟨Ee,Jm⟩,a,rfl⟩
  .cases h
 .exact C0
 .rintro⟨W,H⟩ a;replace a:¬AV W H=0:=a;refine X0a _ ?_;(repeat' first|constructor|intro h)<;>refine Lm ?_
  all_goals first|exact A8|exact a E6|skip
def b9k:AH
 | [.agg [.int .i64 W,.int .i64 H]]=>some (True,c97 W H)
 |_=>none
theorem c3p:∀(l:List (Int×Int)) (i:Nat),i<l.length->(NN l)[i*2]?=some (.int .i64 (l.getD i DJ.d).1)/\(NN l)[i*2+1]?=some (.int .u8 (l.getD i DJ.d).2)
 | [],i,h=>absurd h (K5 _)
 |u::l,0,_=>⟨rfl,rfl⟩
 |u::l,i+1,h=>by
  have e:NN (u::l)=.int .i64 u.1::.int .u8 u.2::NN l:=by simp[NN]
  have:=c3p l i E6;rw[e,show (i+1)*2=i*2+1+1 from Dz];exact this
theorem f7t:PS 30 b9k:=by
 refine⟨pUnE.1,λA w args d pre s y m o f hp=> ?_⟩;unfold b9k at f;split at f;rotate_left
 .cases f
 rename_i W H;cases f;by_cases jz:AV W H=0
 .have q:Xg W H=AY W H:=Ji jz;have z:=OB jz;have qx:CM W H=4*W*H:=H0;have jy:=WW W H;have l:=c30 jz;have r:Rv w:=λg t e=>⟨(m g t e).1,GW (λ_ h=>h.elim) (m g t e).2 (m g t e).1⟩
  obtain⟨u,o⟩:=o;match d,u with
  | [J],_=>
    have K:=o 0 _ J rfl rfl;cases K with
    |agg L u B=>
     match L,u with
     | [a,b],_=>
       have M:=B 0 _ a rfl rfl;have N:=B 1 _ b rfl rfl;cases M;cases N;refine(callsIn_wide.1 (c5p (n:=3) (Jp _) jz r)).mono ?_;rintro e C ⟨b,x,rfl,g1,O,E,P,Q⟩;refine⟨_,rfl,?_,Q⟩;have bb:(AY W H).length*2<=x.length:=by have:=Mj List.length E;rw[Mr,d1v]at this;omega
       have F:∀k,k<(AY W H).length*2->x[k]?=(NN (AY W H))[k]?:=λk f=>by rw[<-E,List.getElem?_take,Ji f]
       have R:D C A BT (.sl 2 (AY W H).length (DJ.row (AY W H)) none) (.slice (some ⟨b,0,none⟩) (AY W H).length (AY W H).length):=by
        refine c7e (H:=A) (μ:=BT) (T:=71) (λ_ h=>h) (λG S U=> ?_) ⟨_,_,rfl,Jp _,Ew,.inl rfl,λi I=>⟨rfl,rfl⟩,.inr ⟨b,0,x,l,rfl,O,Dz,P,λi j s v I hs c=> ?_⟩⟩
        .have:G=b:=(XD l).1 S;have:=y G U;omega
        .obtain⟨c1,V⟩:=c3p (AY W H) i I;match j,hs,c with
         |0,hs,c=>
          rw[show 0+i*2+0=i*2 from Dz,F _ Dz,c1]at c;cases hs;cases c;exact .int
         |1,hs,c=>
          rw[show 0+i*2+1=i*2+1 from Dz,F _ Dz,V]at c;cases hs;cases c;exact .int
         |j+2,hs,c=>simp[RT.row,DJ]at hs
       unfold c97;rw[q,jz];refine .tup _ rfl (λi s v hs c=> ?_);match i,hs,c with
       |0,hs,c=>cases hs;cases c;exact R
       |1,hs,c=>cases hs;cases c;exact .int
       |i+2,hs,c=>simp at hs
 .have q:Xg W H=[]:=Jj jz;have hs:c97 W H=.tup [.sl 2 0 (DJ.row []) none,.int .i64 (AV W H)]:=by unfold c97;rw[q];rfl
  refine(pUnE.2 A w _ d _ _ y m o rfl jz).mono ?_;rintro e C ⟨v,rfl,c,X⟩;refine⟨v,rfl,?_,X⟩;rw[hs];exact Rm c ⟨by simp[SV.le1,SV.le0,HN],by simp[SV.le1,SV.le0],Jm⟩
def GA(k C s:Int):Int:=if AQ k C=0/\¬1<s then 0 else 1
def TW:AH
 | [.agg [.int .u8 k,.int .i64 C,.int .u8 s,.bool _]]=>some (True,.int .i64 (GA k C s))
 |_=>none
def f45:Fam:=⟨Int×Int×Int×Bool,λ(k,C,s,o)=>[.agg [.int .u8 k,.int .i64 C,.int .u8 s,.bool o]],λ_=>True,λ(k,C,s,_)=>.int .i64 (GA k C s)⟩
theorem c75:PS 12 TW:=by
 refine con [(46,Sj)] (by simpa using b2r) f45 (λ_ _=>none) TW ?_ ?_ Tryz.func12 E1 E1 E1 ?_
 .intro args pre s h hp;unfold TW at h;split at h
  .rename_i k C s o;cases h;exact⟨(k,C,s,o),⟨Ee,Jm⟩,Jm,rfl⟩
  .cases h
 .exact C0
 .rintro⟨k,C,s,o⟩ _;refine X0a _ ?_;(repeat' first|constructor|intro h)<;>refine Lm ?_
  all_goals(unfold GA;simp at h;first|exact(if_neg Dz).symm|exact(if_pos Dz).symm)
def csvC(k C:Int)(c:Cl):Int:=RL k C c.x c.y c.q
def RF(k C:Int)(c:Cl):Int:=NH k C c.x c.y c.q
def DY(k C:Int)(p:Pt)(r:Mv):List Int:=(Al p r).map (csvC k C)
def psBad(k C:Int)(p:Pt)(r:Mv):Bool:=(Al p r).any λc=> !decide (RF k C c=0)
def IG(k C:Int)(p:Pt)(r:Mv):Int:=if CH p r=0 then(if psBad k C p r=true then 1 else 0)else CH p r
def QJ(p:Pt)(sd:List Int)(u:Int×Int):Bool:= !decide (sd.getD u.1.toNat AC.d=sd.getD (AE p.W p.H u.1 u.2).toNat AC.d)&&decide (AZ p u.1 u.2=0)
def GO(p:Pt)(sd:List Int)(l:List (Int×Int)):List (Int×Int):=l.filter (QJ p sd)
def d8t(k C:Int)(p:Pt)(r:Mv):SV:=.tup [.sl 2 (zL (IG k C p r) (GO p (DY k C p r) (AY p.W p.H))).length (DJ.row (zL (IG k C p r) (GO p (DY k C p r) (AY p.W p.H)))) none,.sl 1 (zL (IG k C p r) (DY k C p r)).length (AC.row (zL (IG k C p r) (DY k C p r))) none,.int .i64 (IG k C p r)]
def Vh:AH
 | [x,.agg [.int .u8 k,.int .i64 C]]=>(MZ x).map λq=>(q.1,d8t k C q.2.1 q.2.2.1)
 |_=>none
def g4n:Fam:=⟨(Pt×Mv×List Stk)×Int×Int,λ((p,r,L),k,C)=>[.agg (Co p r L),.agg [.int .u8 k,.int .i64 C]],λ((p,r,L),_)=>prOK p r/\DV L,λ((p,r,_),k,C)=>d8t k C p r⟩
def psOwn(p:Pt)(r:Mv)(L:List Stk)(k C:Int)(f:Nat->List SV)(a:List Blk):List Blk:=.cells 39 (Co p r L)::.cells 27 [.int .u8 k,.int .i64 C]::.row 3 1 (Al p r).length f none::a
def f9z:(Pt×Mv×List Stk)×Int×Int->Nat->Option Inv
 |((p,r,L),k,C),6=>some {β:=Nat,ok:=λi=>i<=(Al p r).length/\∀j,j<i->RF k C ((Al p r).getD j CJ.d)=0,st:=λi=>⟨[⟨36,none,.int .i64 i⟩,⟨35,none,.int .i64 (Al p r).length⟩,⟨34,none,.sl 3 (Al p r).length (CJ.row (Al p r)) none⟩,⟨9,none,.osl 2⟩,⟨3,none,.own 1 0⟩,⟨2,none,.own 0 0⟩],psOwn p r L k C (λj=>AC.sv (upto (λj=>csvC k C ((Al p r).getD j CJ.d)) (λ_=>0) i j)) []⟩,μ:=λi=>(Al p r).length-i}
 |((p,r,L),k,C),17=>some {β:=Nat,ok:=λi=>i<=(AY p.W p.H).length,st:=λi=>⟨[⟨66,none,.int .i64 i⟩,⟨65,none,.int .i64 (AY p.W p.H).length⟩,⟨64,none,.sl 2 (AY p.W p.H).length (DJ.row (AY p.W p.H)) none⟩,⟨13,none,.osl 3⟩,⟨9,none,.osl 2⟩,⟨2,none,.own 0 0⟩],psOwn p r L k C (AC.row (DY k C p r)) [.row 71 2 (GO p (DY k C p r) ((AY p.W p.H).take i)).length (DJ.row (GO p (DY k C p r) ((AY p.W p.H).take i))) none]⟩,μ:=λi=>(AY p.W p.H).length-i,nl:=[.slot 13 71 2]}
 |_,_=>none
theorem csE_or(k C:Int)(c:Cl):RF k C c=0\/RF k C c=1:=by
 unfold RF NH;split
 .exact .inl rfl
 .exact .inr rfl
theorem ps_bad{k C:Int}{p:Pt}{r:Mv}{i:Nat}(a:CH p r=0)(h:i<(Al p r).length)(b:¬RF k C ((Al p r).getD i CJ.d)=0):IG k C p r=1:=by unfold IG;rw[Ji a,Ji];exact K1.2 ⟨_,DP (d:=CJ.d) h,by rw[K4 b];rfl⟩
theorem d6k{k C:Int}{p:Pt}{r:Mv}(b:CH p r=0)(h:∀j,j<(Al p r).length->RF k C ((Al p r).getD j CJ.d)=0):IG k C p r=0:=by unfold IG;rw[Ji b,Jj];intro e;obtain⟨c,f,a⟩:=K1.1 e;obtain⟨i,g,rfl⟩:=OX (d:=CJ.d) f;rw[h i g]at a;exact absurd a E4
theorem ps_row{k C:Int}{p:Pt}{r:Mv}{j:Nat}(a:j<(Al p r).length):AC.sv (upto (λj=>csvC k C ((Al p r).getD j CJ.d)) (λ_=>0) (Al p r).length j)=AC.row (DY k C p r) j:=by rw[YF _ _ a];simp[DY,RT.row,a]
theorem g1m{p:Pt}{sd:List Int}{l:List (Int×Int)}{i:Nat}(h:i<l.length)(a:QJ p sd (l.getD i DJ.d)=true):GO p sd (l.take (i+1))=GO p sd (l.take i)++[l.getD i DJ.d]:=by rw[GF (d:=DJ.d) h];unfold GO;rw[List.filter_append];generalize l.getD i DJ.d=x at*;simp[a]
theorem c7j{p:Pt}{sd:List Int}{l:List (Int×Int)}{i:Nat}(h:i<l.length)(a:QJ p sd (l.getD i DJ.d)=false):GO p sd (l.take (i+1))=GO p sd (l.take i):=by rw[GF (d:=DJ.d) h];unfold GO;rw[List.filter_append];generalize l.getD i DJ.d=x at*;simp[a]
theorem psF_le{p:Pt}{sd:List Int}{l:List (Int×Int)}{i:Nat}:(GO p sd (l.take i)).length<=l.length:=by unfold GO;exact Ch
theorem WJ{W H:Int}(hs:AV W H=0){u:Int×Int}(b:u∈AY W H):(0<=u.1/\u.1<AF W H)/\(0<=u.2/\u.2<3)/\AR W H u.1 u.2=0/\0<=AE W H u.1 u.2/\AE W H u.1 u.2<AF W H:=by have hN:=CG hs;have hc:CM W H=4*W*H:=Fv;unfold AY Ll at b;simp only[Jx,Ki,Kk]at b;obtain⟨m,⟨hm,a⟩,rfl⟩:=b;unfold Ol at a;simp only[J3]at a;have d:((m/3:Nat):Int)<4*W*H:=Dz;have c:(0:Int)<=((m%3:Nat):Int)/\((m%3:Nat):Int)<3:=Dz;have:=(GU hs Dz d c a.1).1;refine⟨⟨by show (0:Int)<=((m/3:Nat):Int);omega,by show ((m/3:Nat):Int)<_;omega⟩,c,a.1,this.1,by show AE W H ((m/3:Nat):Int) ((m%3:Nat):Int)<_;omega⟩
theorem g3d:PS 19 Vh:=by
 refine con [(29,WF),(59,YM),(30,b9k),(32,Rw),(31,WT)] (by simpa using⟨c0b,c4a,f7t,UT,d9m⟩) g4n f9z Vh ?_ ?_ Tryz.func19 E1 E1 E1 ?_
 .intro args pre s h v;unfold Vh at h;split at h
  .rename_i x k C;simp only[It]at h;obtain⟨⟨q,p,r,L⟩,hx,rfl,rfl⟩:=h;obtain⟨l,w,y⟩:=QQ hx v;exact⟨((p,r,L),k,C),⟨l,Ee,Jm⟩,⟨w,y⟩,rfl⟩
  .cases h
 .exact Bz
 .rintro⟨⟨p,r,L⟩,k,C⟩ ⟨bm,bv⟩;refine X0a _ ?_;(repeat' first|constructor|intro h)<;>refine Lm ?_
  all_goals(try simp only[K0,CE,IV,IM]at*)
  .exact⟨⟨⟨FT _,bm.1.1⟩,bm.1.2⟩,bm.2⟩
  iterate 2
   .have f:¬CH p r=0:=E6;have e:IG k C p r=CH p r:=Jj f;simp[zL,e,f]
  .have f:¬CH p r=0:=E6;exact(Jj f).symm
  all_goals
   have g:CH p r=0:=E6;have P:=UO bm.2.1 g;have hs:=(FN (Og g).1).1;have hN:=CG hs;have vk:=P.il;have qx:CM p.W p.H=4*p.W*p.H:=Fv;have jy:=WW p.W p.H
  .refine⟨Dz,Dz,Rj E1 Dz Dz,Dz⟩
  refine⟨(0:Nat),⟨Jw _,λj hj=>absurd hj (K5 _)⟩,?_,?_⟩
  .refine X0a _ ?_;(repeat' first|constructor|intro h)<;>refine Lm ?_
   all_goals first|exact A2|(intro j hj;show _=AC.sv (upto _ _ 0 j);rw[b36];rfl)|skip
  .intro i z;obtain⟨o,t⟩:=z;replace o:i<=(Al p r).length:=o;have hx:i<(Al p r).length->0<=((Al p r).getD i CJ.d).q:=λh=>by
    have:=(P.im i Dz).2.2.2;omega
   refine X0a _ ?_;(repeat' first|constructor|intro h)<;>refine Lm ?_
   all_goals(try simp only[Ir,b7j _ _ (Jp i)]at*)
   all_goals(try first
    |exact Ap
    |exact hx Dz
    |(exfalso;simp[]at h;done)
    |(rename_i l;exfalso;simp[hs]at l;done)
    |(have m:(!decide (RF k C ((Al p r).getD i CJ.d)=0))=true:=by assumption
      have u:¬RF k C ((Al p r).getD i CJ.d)=0:=by simpa using m
      have e:IG k C p r=1:=ps_bad g Dz u;first
       |(simp[zL,e];done)
       |exact((csE_or k C ((Al p r).getD i CJ.d)).resolve_left u).trans e.symm))
   .have m:(!decide (RF k C ((Al p r).getD i CJ.d)=0))=false:=E5;refine⟨i+1,⟨Dz,λj hj=> ?_⟩,Ed,?_⟩
    .by_cases e:j<i
     .exact t j e
     .have:j=i:=Dz;subst this;simpa using m
    .refine X0a _ ?_;(repeat' first|constructor|intro h)<;>refine Lm ?_
     all_goals first|exact An|exact λj _=>b2x AC (λ_ _=>rfl) (λ_ _=>rfl) (λj=>csvC k C ((Al p r).getD j CJ.d)) _ i j|skip
   .have A:i=(Al p r).length:=Dz;subst A;have n:IG k C p r=0:=d6k g λj hj=>t j hj;have B:Xg p.W p.H=AY p.W p.H:=Ji hs;simp only[B];refine⟨(0:Nat),Jw _,?_,?_⟩
    .refine X0a _ ?_;(repeat' first|constructor|intro h)<;>refine Lm ?_
     all_goals first|exact A2|exact Af|exact λj hj=>ps_row hj|skip
    .intro j hj;replace hj:j<=(AY p.W p.H).length:=hj;have E:j<(AY p.W p.H).length->_:=λh=>WJ hs (DP (d:=DJ.d) h);refine X0a _ ?_;(repeat' first|constructor|intro h)<;>refine Lm ?_
     all_goals(try simp only[Ir,CE,IV]at*)
     all_goals(try first
      |exact Ap
      |(obtain⟨q1,q2,q3,q4⟩:=E Dz
        first
         |exact At)
      |(have:=@psF_le p (DY k C p r) (AY p.W p.H) j;refine⟨Dz,?_⟩;exact MQ E1 Dz))
     .have b:j<(AY p.W p.H).length:=Dz;have c:QJ p (DY k C p r) ((AY p.W p.H).getD j DJ.d)=false:=by
       unfold QJ;rw[K3 (p:=(DY k C p r).getD _ AC.d=(DY k C p r).getD _ AC.d) E5];rfl
      refine⟨j+1,Fw,Fx,?_⟩;simp only[c7j b c];exact X1g
     .have b:j<(AY p.W p.H).length:=Dz;have c:QJ p (DY k C p r) ((AY p.W p.H).getD j DJ.d)=true:=by
       unfold QJ;rw[K4 (p:=(DY k C p r).getD _ AC.d=(DY k C p r).getD _ AC.d) E5,K3 (p:=AZ p _ _=0) E5];rfl
      refine⟨j+1,Fw,Fx,?_⟩;simp only[g1m b c,J4];refine X0a _ ?_;(repeat' first|constructor|intro h)<;>refine Lm ?_
      all_goals first|exact An|exact SC (R:=DJ) rfl|skip
     .have b:j<(AY p.W p.H).length:=Dz;have c:QJ p (DY k C p r) ((AY p.W p.H).getD j DJ.d)=false:=by
       unfold QJ;rw[K4 (p:=AZ p _ _=0) E5];exact Bool.and_false _
      refine⟨j+1,Fw,Fx,?_⟩;simp only[c7j b c];exact X1g
     all_goals
      have F:j=(AY p.W p.H).length:=Dz;subst F;simp only[Kw,zL,Ji n];first|exact A2|exact n.symm|exact(Kh ..).symm|skip
section
open Go.Sort Go.Proofs Go.Shelf
def DB:RT Cr:=⟨3,λx=>[.int .i64 x.c,.int .u8 x.e,.int .u8 x.k],λl=>match l with
 | [.int _ a,.int _ b,.int _ c]=>⟨a,b,c⟩
 |_=>⟨0,0,0⟩,⟨0,0,0⟩,λ_=>rfl⟩
def XS:AH
 | [.agg [.int .i64 a,.int .u8 b,.int .u8 _],.agg [.int .i64 c,.int .u8 d,.int .u8 _]]=>some (True,.int .i64 (JZ [CC a c,CC b d]))
 |_=>none
def FCrd1:Fam:=⟨(Int×Int×Int)×Int×Int×Int,λ((a,b,k),c,d,l)=>[.agg [.int .i64 a,.int .u8 b,.int .u8 k],.agg [.int .i64 c,.int .u8 d,.int .u8 l]],λ_=>True,λ((a,b,_),c,d,_)=>.int .i64 (JZ [CC a c,CC b d])⟩
theorem pCrd1:PS 83 XS:=by
 refine con [(39,Ro),(84,d67),(37,VD)] (by simpa using⟨Xn,pCmp8,pOrL⟩) FCrd1 (λ_ _=>none) XS ?_ ?_ Tryz.func83 E1 E1 E1 ?_
 .intro args pre s h hp;unfold XS at h;split at h
  .rename_i a b k c d l;cases h;exact⟨((a,b,k),c,d,l),⟨Ee,Ee,Jm⟩,Jm,rfl⟩
  .cases h
 .exact Bz
 .rintro⟨⟨a,b,k⟩,c,d,l⟩ _;exact X2b
def FV(x:Cr):List Int:=[x.c,x.e]
def c15:KI:=λ_ b n g a=>match a with
 | [.clo f []]=>if f=83/\b=3 then some (DB.is n g/\n<=100000/\(∀x∈DB.lst n g,∀y∈DB.lst n g,FV x=FV y->x=y),DB.row (FD FV (DB.lst n g)),false)else none
 |_=>none
theorem g3z:ES 82 c15:=by
 refine f0a DB Tryz.sortCrease rfl ⟨_,Tryz.func82,E1,E1⟩ (λw=>Tryz.isAgg69 w) (λw=>Tryz.sizeOf69 w) (λ_=>rfl) (λx s hs=> ?_) XS pCrd1 (enters_of Tryz.func83 E1 rfl) c15 ?_
 .simp[DB]at hs;rcases hs with rfl|rfl|rfl<;>exact⟨_,_,rfl⟩
 .intro T sz n g rest pre g' r h;unfold c15 at h;split at h;rotate_left
  .cases h
  rename_i f;split at h;rotate_left
  .cases h
  rename_i b;obtain⟨rfl,rfl⟩:=b;cases h;refine⟨rfl,rfl,[],FV,rfl,λa=>⟨a.1,a.2.1,λx hx y hy=> ?_,a.2.2,rfl⟩⟩;refine⟨True,?_,Jm⟩;show XS [.agg [.int .i64 x.c,.int .u8 x.e,.int .u8 x.k],.agg [.int .i64 y.c,.int .u8 y.e,.int .u8 y.k]]=_;simp only[XS,FV,d7r]
end
def capU:SV->Option (Prop×List Bool×Option Nat)
 |.rel 1 1 f 0 0=>match f 0 with
  | [.sl 1 n g a]=>some (f=(λ_=>[.sl 1 n g a])/\g=EJ.row (EJ.lst n g),EJ.lst n g,a)
  |_=>none
 |_=>none
def f3b(l:List Bool)(a:Option Nat):SV:=.rel 1 1 (λ_=>[.sl 1 l.length (EJ.row l) a]) 0 0
theorem f8u{s:SV}{q:Prop}{l:List Bool}{a:Option Nat}(h:capU s=some (q,l,a))(b:q):s=f3b l a:=by
 unfold capU at h;split at h
 .split at h
  .cases h;obtain⟨c,d⟩:=b;rw[c];unfold f3b;rw[RT.lst_length,<-d]
  .cases h
 .cases h
def capF:SV->Option (Prop×(Int×Int×Int)×Bool)
 |.rel 4 1 f 0 0=>match f 0 with
  | [.int .u8 k,.int .i64 C,.int .u8 s,.bool o]=>some (f=(λ_=>[.int .u8 k,.int .i64 C,.int .u8 s,.bool o]),(k,C,s),o)
  |_=>none
 |_=>none
def g4c(x:Int×Int×Int)(o:Bool):SV:=.rel 4 1 (λ_=>[.int .u8 x.1,.int .i64 x.2.1,.int .u8 x.2.2,.bool o]) 0 0
theorem g0r{s:SV}{q:Prop}{x:Int×Int×Int}{o:Bool}(h:capF s=some (q,x,o))(a:q):s=g4c x o:=by
 unfold capF at h;split at h
 .split at h
  .cases h;rw[a];rfl
  .cases h
 .cases h
def dkI(l:List Bool)(o:Bool)(v:Int):Int:=if l.getD v.toNat EJ.d=o then 2 else 1
def kDo1:AH
 | [.int .i64 v,s,t]=>match capU s,capF t with
   |some (q,l,_),some (a,_,o)=>some ((q/\a)/\0<=v/\v<l.length,.int .u8 (dkI l o v))
   |_,_=>none
 |_=>none
def FDo1:Fam:=⟨Int×(List Bool×Option Nat)×(Int×Int×Int)×Bool,λ(v,(l,a),x,o)=>[.int .i64 v,f3b l a,g4c x o],λ(v,(l,_),_,_)=>0<=v/\v<l.length,λ(v,(l,_),_,o)=>.int .u8 (dkI l o v)⟩
theorem pDo1:PS 28 kDo1:=by
 refine con [] E2 FDo1 (λ_ _=>none) kDo1 ?_ ?_ Tryz.func28 E1 E1 E1 ?_
 .intro args pre s h a;unfold kDo1 at h;split at h
  .rename_i v x1 x2;split at h
   .rename_i q l b q' x o c d;cases h;rw[f8u c a.1.1,g0r d a.1.2];exact⟨(v,(l,b),x,o),⟨Ea,by simp[f3b,SV.le2,SV.le1,SV.le0],by simp[g4c,SV.le2,SV.le1,SV.le0],Jm⟩,a.2,rfl⟩
   .cases h
  .cases h
 .exact C1
 .rintro⟨v,⟨l,b⟩,x,o⟩ a;replace a:0<=v/\v<l.length:=a;refine X0a _ ?_;(repeat' first|constructor|intro h)<;>refine Lm ?_
  all_goals(first
   |exact a
   |exact(Ji E6).symm
   |exact(Jj E6).symm
   |skip)
def b39:AH
 | [.sl 3 n f _]=>some (n<=100000/\∀i,i<n->(f i).all SV.flat0=true,.sl 3 n f none)
 | [.con (.slice none 0 0)]=>some (True,.sl 3 0 (λ_=>[]) none)
 |_=>none
def d4j:Fam:=⟨Nat×(Nat->List SV),λ(n,f)=>[.sl 3 n f none],λ(n,f)=>n<=100000/\∀i,i<n->(f i).all SV.flat0=true,λ(n,f)=>.sl 3 n f none⟩
theorem d60:PF 81 b39:=by
 refine conF {} ⟨E2,E2,E2⟩ d4j (λ_ _=>none) b39 ?_ ?_ Tryz.func81 E1 E1 E1 ?_
 .intro args pre s h hp;unfold b39 at h;split at h
  .rename_i n f c;cases h;exact C3
  .cases h;exact Ce
  .cases h
 .exact C0
 .rintro⟨n,f⟩ ⟨hp,dw⟩;refine X0a _ ?_;(repeat' first|constructor|intro h)<;>refine Lm ?_
  all_goals(first
   |exact Ah
   |(intro i hi;simp;done)
   |skip)
def hVCl:HK:=λa own=>match a,own with
 | [.sl 3 n f _],[]=>some ⟨n<=100000,.osl 0,[.row 69 3 n f none],[]⟩
 |_,_=>none
def FVCl:FamH:=⟨Nat×(Nat->List SV),λ(n,f)=>[.sl 3 n f none],λ_=>[],λ(n,_)=>n<=100000,λ_=>.osl 0,λ(n,f)=>[.row 69 3 n f none],[]⟩
theorem pVCl:HS 81 hVCl:=by
 refine JO {G:={gx:=c13 2 69 3}} ⟨E2,E2,E2⟩ FVCl (λ_ _=>none) hVCl ?_ ?_ ?_ Tryz.func81 E1 E1 E1 ?_
 .intro args own r h hp;unfold hVCl at h;split at h
  .rename_i n f c;cases h;exact Dv
  .cases h
 .exact C0
 .exact Cj
 .rintro⟨n,f⟩ μ hp;replace hp:n<=100000:=hp;refine X0a _ ?_;(repeat' first|constructor|intro h)<;>refine Lm ?_
  all_goals(first
   |exact An
   |exact Bh
   |(intro i hi;simp;done)
   |skip)
def RE(a:List Bool)(o:Bool)(u:Int×Int):Cr:=⟨u.1,u.2,dkI a o u.1⟩
def KL(p:Pt)(l:List (Int×Int))(a:List Bool)(o:Bool):List Cr:=p.l++l.map (RE a o)
def RI(p:Pt)(l:List (Int×Int))(a:List Bool)(o:Bool):List Cr:=FD FV (KL p l a o)
def f50(p:Pt)(l:List (Int×Int))(a:List Bool)(o:Bool):Prop:=(p.l.length+l.length<=100000/\∀u∈l,0<=u.1/\u.1<a.length)/\∀x∈KL p l a o,∀y∈KL p l a o,FV x=FV y->x=y
theorem d78{p:Pt}{l:List (Int×Int)}{a:List Bool}{o:Bool}{i:Nat}(h:i<l.length):KL p (l.take (i+1)) a o=KL p (l.take i) a o++[RE a o (l.getD i DJ.d)]:=by rw[GF (d:=DJ.d) h];simp[KL]
theorem f0x{p:Pt}{l:List (Int×Int)}{a:List Bool}{o:Bool}{i:Nat}(h:i<=l.length):(KL p (l.take i) a o).length=p.l.length+i:=by simp[KL];omega
def YB:AH
 | [.agg [.int .i64 a,.int .i64 b,.int .u8 c,x],.agg [.int .i64 d,.int .i64 e,.int .u8 f,y]]=>match AC.as x,AC.as y with
   |some u,some v=>some ((AC.isL u.1 u.2/\AC.isL v.1 v.2)/\AD .u8 c/\AD .u8 f,.int .i64 (GM a b c d e f))
   |_,_=>none
 |_=>none
def FOvr1:Fam:=⟨Stk×Stk,λ(s,t)=>[.agg (AA.sv s),.agg (AA.sv t)],λ(s,t)=>AD .u8 s.c.q/\AD .u8 t.c.q,λ(s,t)=>.int .i64 (GM s.c.x s.c.y s.c.q t.c.x t.c.y t.c.q)⟩
theorem pOvr1:PS 77 YB:=by
 refine con [(69,Sx)] Hp FOvr1 (λ_ _=>none) YB ?_ ?_ Tryz.func77 E1 E1 E1 ?_
 .intro args pre s h g;unfold YB at h;split at h
  .rename_i a b c x d e f y;split at h
   .rename_i u v j k;cases h;obtain⟨⟨l,m⟩,n⟩:=g;refine⟨(⟨⟨a,b,c⟩,AC.lst u.1 u.2⟩,⟨⟨d,e,f⟩,AC.lst v.1 v.2⟩),⟨⟨E7,E7,E7,AC.as_leL j l,Jm⟩,⟨E7,E7,E7,AC.as_leL k m,Jm⟩,Jm⟩,n,rfl⟩
   .cases h
  .cases h
 .exact Bz
 .rintro⟨s,t⟩ g;replace g:AD .u8 s.c.q/\AD .u8 t.c.q:=g;exact X2c
section
open Go.Sort Go.Proofs Go.Shelf
def WC(vs:List Value)(o sz n:Nat)(i:Fin n):List Value:=(List.range sz).map λj=>vs.getD (o+i.1*sz+j) undef
theorem c7t{vs:List Value}{o sz n:Nat}{i:Fin n}{j:Nat}(hj:j<sz):(WC vs o sz n i)[j]! =vs.getD (o+i.1*sz+j) undef:=by rw[L6 _ j Hx];simp[WC]
theorem sortE2{β:Type}(R:RT β){ρ:Ren}{fs fc:FuncId}(L:SlLaysF0.n6 Tryz.prog ρ)(m8:ρ.f 6=fs)(hU:∃fn,Tryz.prog.funcs[fs]?=some fn/\(fn.name== "runtime.NumGoroutine")=false/\fn.body.isNone=false)
 (aE:∀w,(isAgg (ρ.t 24)).run Tryz.prog w=.ok true w) (zE:∀w,(Go.sizeOf (ρ.t 24)).run Tryz.prog w=.ok R.sz w) (hL:∀x,(R.sv x).length=R.sz) (hI:∀x,(R.sv x).all SV.pure=true)
 (kc:AH) (pc:PS fc kc) (eg:∀args w,(callFunc fc args).run Tryz.prog w=.ok (.enter fc args) w) (e:KI)
 (he:∀T sz n g rest pre g' r,e T sz n g rest=some (pre,g',r)->sz=R.sz/\r=false/\∃caps key,rest=[.clo fc caps]/\(pre->R.isL n g/\n<=100000/\
   (∀x∈R.lst n g,∀y∈R.lst n g,∃p:Prop,kc ([.agg (R.sv x),.agg (R.sv y)]++caps)=some (p,.int .i64 (BA (key x) (key y)))/\p)/\((R.lst n g).map key).Nodup/\g'=R.row (FD key (R.lst n g)))):ES fs e:=by
 refine⟨hU,?_⟩;intro A w v T sz n g c rest vals pre g' r hA hv cd hB hD vw hp;obtain⟨rfl,rfl,caps,key,rfl,dc⟩:=he _ _ _ _ _ _ _ _ vw;obtain⟨md,hn,tv,tw,rfl⟩:=dc hp;obtain⟨fv,rfl⟩:∃fv,vals=[fv]:=by
  have:=hD.1;match vals,this with
  | [fv],_=>exact⟨fv,rfl⟩
 have hf:=hD.2 0 _ fv rfl rfl;cases hf with
 |clo cvs dt s9=>
 obtain⟨a,m,rfl,fx,j9,fk,hl,bc⟩:=hB;rcases Kt n with h0|h0
 .subst h0;have dv:=AnyF.slices_SortFunc_none {L with} a m (.func (.func fc) #[] cvs.toArray) w;rw[m8]at dv;refine dv.mono ?_;rintro e w' ⟨rfl,rfl⟩;refine⟨_,rfl,λh=>E9,λ_=>rfl,⟨a,m,rfl,fx,j9,fk,λi hi=>absurd hi Dz,?_⟩,Fr.refl _ _ _⟩;rcases bc with h|⟨b,o,vs,c9,rfl,hh,ho,h1,hd⟩
  .exact .inl h
  .exact D6
 .rcases bc with h|⟨b,o,vs,c9,rfl,hh,ho,h1,hd⟩
  .omega
  have hb:b<w.heap.size:=(K7.1 hh).1;have bb:(R.lst n g).length=n:=RT.lst_length R n g;have dm:∀i,i<n->(R.lst n g)[i]?=some (R.of (g i)):=λi hi=>by simp[RT.lst,hi]
  haveI:Inhabited (Fin n):=⟨⟨0,h0⟩⟩
  let d:Array (Fin n):=(List.finRange n).toArray
  have qc:d.size=n:=by simp[d]
  have P6:∀i,i<n->(d[i]!).1=i:=λi hi=>by rw[L6 d i Dz];simp[d]
  have bg:∀i j,i<n->j<R.sz->o+i*R.sz+j<vs.length:=λi j hi hj=>by have:=LO hi hj;have:n*R.sz<=m*R.sz:=Kr _ fx;omega
  let enc:=WC vs o R.sz n
  have hk:∀x,(enc x).length=R.sz:=λx=>by simp[enc,WC]
  have cw:∀i j,i<n->j<R.sz->vs[o+i*R.sz+j]?=some ((enc d[i]!)[j]!):=by intro i j hi hj;have b6:=bg i j hi hj;rw[Jh b6,c7t hj,P6 i hi];simp[Jh b6]
  have w7:∀x,∀v∈enc x,v.oneCell'=true:=λx v hv=>by obtain⟨j,hj,rfl⟩:=Jx.1 hv;have b6:=bg x.1 j x.2 Er;simp only[J8,Jh b6];exact h1 _ (Kj b6)
  have hDx:∀(x:Fin n) (w':World) (H':Nat->Prop) (μ':Mu),Keeps w w' (held A (HA (.slice (some ⟨b,o,none⟩) n m))) H' BT BT->∀(j:Nat) (s:SV) (u:Value),(R.sv (R.of (g x.1)))[j]?=some s->(enc x)[j]?=some u->D w' H' μ' s u:=by
   intro x w' H' μ' kp j s u hs hu;have hj:j<R.sz:=Gv;have b6:=bg x.1 j x.2 hj;have gc:vs[o+x.1*R.sz+j]?=some u:=by have:=c7t (vs:=vs) (o:=o) (n:=n) (i:=x) hj;rw[L6 _ j Hx]at this;have h2:(enc x)[j]?=some ((WC vs o R.sz n x)[j]'Hx):=Jh _;rw[h2,this]at hu;rw[<-hu,Jh b6];simp[Jh b6]
   obtain⟨s0,c6,kr⟩:=(b38 (md x.1 x.2)).2.1 j s hs;have h3:=kr (hd x.1 j s0 u x.2 c6 gc);have hp:=Jr.1 (hI (R.of (g x.1))) s (Jn hs);exact IK (λ_ h=>h) ((IK (μ':=BT) (λ_ h=>h) h3 hp).keep kp) hp
  have hH:HoldsK enc R.sz w b o d:=by
   intro t ht;have P7:t<n*R.sz:=by simpa[qc]using ht
   have hz:0<R.sz:=by
    rcases Kt R.sz with hz|hz
    .rw[hz]at P7;omega
    .exact hz
   have t1:t/R.sz<n:=Nat.div_lt_of_lt_mul Gg;have t2:=Nq t hz;have q:=We (enc:=enc) (k:=R.sz) (d:=d) (i:=t/R.sz) (j:=t%R.sz) Dz t2;have hc:=cw (t/R.sz) (t%R.sz) t1 t2;rw[Lt,Nw]at hc;rw[Nw]at q;rw[q.2];refine⟨?_,?_⟩
   .simp only[World.cell?,hh,Option.isSome_none,J5,List.getElem?_toArray];exact hc
   .simp[World.frozen?,hh]
  have P8:CmpLays Tryz.prog fc cvs.toArray enc R.sz (λx y=>BA (key (R.of (g x.1))) (key (R.of (g y.1)))) b o d.size w:=by
   intro q os dk hdk x y;have bq:w.heap.size<=(sortWorldK enc R.sz w b o q dk os).heap.size:=b3b;have kp:Keeps w (sortWorldK enc R.sz w b o q dk os) (held A (HA (.slice (some ⟨b,o,none⟩) n m))) (held A (HA (.slice (some ⟨b,o,none⟩) n m))) BT BT:=
    ⟨bq,λi hi b9=>b00 hi (λe=>b9 (.inr ⟨0,_,rfl,e▸KG c9⟩)),λ_ _ h=>h,λ_ _ h=>h⟩
   obtain⟨p,Z3,qp⟩:=tv _ (Jn (dm x.1 x.2)) _ (Jn (dm y.1 y.2));have m7:DL (sortWorldK enc R.sz w b o q dk os) (held A (HA (.slice (some ⟨b,o,none⟩) n m))) BT [.agg (R.sv (R.of (g x.1))),.agg (R.sv (R.of (g y.1)))] [.agg (enc x).toArray,.agg (enc y).toArray]:=
    ⟨rfl,λi s v hs hv=>by
      match i,hs,hv with
      |0,hs,hv=>
       simp at hs hv;subst hs hv;exact .agg _ (by rw[hk,hL]) (λj s v hs hv=>hDx x _ _ _ kp j s v hs hv)
      |1,hs,hv=>
       simp at hs hv;subst hs hv;exact .agg _ (by rw[hk,hL]) (λj s v hs hv=>hDx y _ _ _ kp j s v hs hv)⟩
   have hDC:DL (sortWorldK enc R.sz w b o q dk os) (held A (HA (.slice (some ⟨b,o,none⟩) n m))) BT caps cvs:=⟨dt,λi s v hs hv=>(s9 i s v hs hv).keep kp⟩
   have:=pc.2 (held A (HA (.slice (some ⟨b,o,none⟩) n m))) (sortWorldK enc R.sz w b o q dk os) _ _ p _
    (λi hi=>by
      rcases hi with hi|⟨j,z,hj,hz⟩
      .exact Kf (hA i hi) bq
      .unfold HA at hj;split at hj
       .cases hj;exact Kf (hv i hz).1 bq
       .cases hj)
    (λg t hg=>⟨(cd g t hg).1,(cd g t hg).2.keep kp⟩) (c7c m7 hDC) Z3 qp
   have e:(#[Value.agg (enc x).toArray,Value.agg (enc y).toArray]++cvs.toArray:Array Value)=([Value.agg (enc x).toArray,Value.agg (enc y).toArray]++cvs).toArray:=F7;rw[e];refine this.mono ?_;rintro e w' ⟨v,rfl,T6,bn⟩;cases T6;exact⟨rfl,b84 bn (λ_ h=>h)⟩
  have mt:∀x y:Fin n,key (R.of (g x.1))=key (R.of (g y.1))->x=y:=by
   intro x y hxy;have hp:=Kx.1 tw;have gx:∀z:Fin n,((R.lst n g).map key)[z.1]'(by rw[Kh,bb];exact z.2)=key (R.of (g z.1)):=λz=>by simp[RT.lst]
   rcases My x.1 y.1 with b6|he|b6
   .exact absurd ((gx x).trans (hxy.trans (gx y).symm)) (hp _ _ _ _ b6)
   .exact Fin.ext he
   .exact absurd ((gx y).trans (hxy.symm.trans (gx x).symm)) (hp _ _ _ _ b6)
  have dv:=AnyQ.slices_SortFunc_total L R.sz aE zE enc hk w7 (λx y=>BA (key (R.of (g x.1))) (key (R.of (g y.1)))) (d76 (λx:Fin n=>key (R.of (g x.1)))) fc cvs.toArray b o m d w eg P8 hH hb Dz
   (λx y h1 h2=>mt _ _ (Pu _ _ (by simp only[ltOf,L8]at h1 h2;have:=KQ (key (R.of (g x.1))) (key (R.of (g y.1)));omega)))
  rw[m8,qc]at dv;refine dv.mono ?_;rintro e w' ⟨rfl,q,os,rfl⟩;generalize hM:(d.toList.mergeSort λx y=> !(ltOf (λx y:Fin n=>BA (key (R.of (g x.1))) (key (R.of (g y.1))))) y x)=M;have tx:M.map (λx=>R.of (g x.1))=FD key (R.lst n g):=by
   rw[<-hM,<-b7m key _ (d7y tw)];rw[List.map_mergeSort (s:=λx y=>decide (BA (key x) (key y)<=0))]
   .congr 1;apply Nx
    .simp[d,RT.lst]
    .intro i h1 h2;simp[d,RT.lst]
   .intro x _ y _;have:=KQ (key (R.of (g x.1))) (key (R.of (g y.1)));simp only[ltOf,<-decide_not,decide_eq_decide];omega
  have j5:M.length=n:=by have:=Mj List.length tx;rw[Kh,NM,bb]at this;exact this
  have hMi:∀i,i<n->R.of (g (M.toArray[i]!).1)=(FD key (R.lst n g)).getD i R.d:=λi hi=>by rw[<-tx,L6 M.toArray i G9];simp[j5,hi]
  have kp:Keeps w (sortWorldK enc R.sz w b o q M.toArray os) (held A (HA (.slice (some ⟨b,o,none⟩) n m))) (held A (HA (.slice (some ⟨b,o,none⟩) n m))) BT BT:=
   ⟨b3b,λi hi b9=>b00 hi (λe=>b9 (.inr ⟨0,_,rfl,e▸KG c9⟩)),λ_ _ h=>h,λ_ _ h=>h⟩
  refine⟨_,rfl,λh=>E9,λ_=>rfl,⟨_,m,rfl,fx,j9,fk,λi hi=>⟨hL _,hI _⟩,.inr ⟨b,o,(putCells id o (flatK enc R.sz M.toArray) vs.toArray).toList,c9,rfl,?_,?_,?_,?_⟩⟩,d6d (KG c9)⟩
  .rw[b1w hh]
  .rw[Ls,b06];simpa using ho
  .intro v hv;exact Ds
  .intro i j s v hi hs hv;have hj:j<R.sz:=Gv;have q:=We (enc:=enc) (k:=R.sz) (d:=M.toArray) (i:=i) (j:=j) G9 hj;rw[Lk,Lt,b0s q.1 (by simp;have:=bg i j hi hj;omega),q.2]at hv;cases hv;have hs':(R.sv (R.of (g (M.toArray[i]!).1)))[j]?=some s:=by rw[hMi i hi];exact hs
   refine hDx _ _ _ _ kp j s _ hs' ?_;have bi:j<(enc (M.toArray[i]!)).length:=by rw[hk];exact hj
   rw[L6 _ j bi];exact Jh bi
end
def c8n:HK:=λa own=>match a,own with
 | [.osl 0],[.row T 1 n f _]=>if T=3 then some ⟨n<=100000,.osl 0,[.row 3 1 n f (some n)],[0]⟩else none
 |_,_=>none
def g0s:FamH:=⟨Nat×(Nat->List SV),λ_=>[.osl 0],λ(n,f)=>[.row 3 1 n f none],λ(n,_)=>n<=100000,λ_=>.osl 0,λ(n,f)=>[.row 3 1 n f (some n)],[0]⟩
theorem g0t:HS 120 c8n:=by
 refine JO {} ⟨E2,E2,E2⟩ g0s (λ_ _=>none) c8n ?_ ?_ ?_ Tryz.func120 E1 E1 E1 ?_
 .intro args own r h a;unfold c8n at h;split at h
  .rename_i T n f c;split at h
   .rename_i b;subst b;cases h;exact⟨(n,f),⟨Ea,Jm⟩,rfl,⟨⟨Em,rfl,Jm,SH λ_ _=>rfl⟩,Jm⟩,a,rfl,rfl,rfl⟩
   .cases h
  .cases h
 .exact C0
 .exact C5
 .rintro⟨n,f⟩ μ a;replace a:n<=100000:=a;refine X0a _ ?_;(repeat' first|constructor|intro h)<;>refine Lm ?_
  all_goals(first
   |exact Ar
   |(show some ((n:Int)-0).toNat=some n;congr 1)
   |exact B3
   |(intro i hi;congr 1;simp;done)
   |skip)
def f4q:HK:=λa own=>match a,own with
 | [.sl 1 n f _],[]=>some ⟨n<=100000,.osl 0,[.row 3 1 n f none],[]⟩
 |_,_=>none
def FVClI:FamH:=⟨Nat×(Nat->List SV),λ(n,f)=>[.sl 1 n f none],λ_=>[],λ(n,_)=>n<=100000,λ_=>.osl 0,λ(n,f)=>[.row 3 1 n f none],[]⟩
theorem pVClI:HS 121 f4q:=by
 refine JO {G:={gx:=c13 2 3 1}} ⟨E2,E2,E2⟩ FVClI (λ_ _=>none) f4q ?_ ?_ ?_ Tryz.func121 E1 E1 E1 ?_
 .intro args own r h hp;unfold f4q at h;split at h
  .rename_i n f c;cases h;exact Dv
  .cases h
 .exact C0
 .exact Cj
 .rintro⟨n,f⟩ μ hp;replace hp:n<=100000:=hp;refine X0a _ ?_;(repeat' first|constructor|intro h)<;>refine Lm ?_
  all_goals(first
   |exact An
   |exact Bh
   |(intro i hi;simp;done)
   |skip)
def b6w:HK:=λd own=>match d,own with
 | [.agg [.int .i64 a,.int .i64 b,.int .u8 c,.sl 1 n f _]],[]=>some ⟨n<=100000,.agg [.int .i64 a,.int .i64 b,.int .u8 c,.osl 0],[.row 3 1 n f (some n)],[]⟩
 |_,_=>none
def f3m:FamH:=⟨(Int×Int×Int)×Nat×(Nat->List SV),λ((a,b,c),n,f)=>[.agg [.int .i64 a,.int .i64 b,.int .u8 c,.sl 1 n f none]],λ_=>[],λ(_,n,_)=>n<=100000,λ((a,b,c),_,_)=>.agg [.int .i64 a,.int .i64 b,.int .u8 c,.osl 0],λ(_,n,f)=>[.row 3 1 n f (some n)],[]⟩
theorem d00:HS 60 b6w:=by
 refine JO {h:=[(121,f4q),(120,c8n)],gr:=λid=>bif Nat.beq id 1 then [.orders]else [],G:={gx:=λ_=>[.sel [2,1]]}} ⟨E2,E2,by simpa using⟨pVClI,g0t⟩⟩ f3m (λ_ _=>none) b6w ?_ ?_ ?_ Tryz.func60 E1 E1 E1 ?_
 .intro args own r h d;unfold b6w at h;split at h
  .rename_i a b c n f cp;cases h;exact⟨((a,b,c),n,f),⟨by simp[SV.le2,SV.le1,BH,SV.le0,HN,Hl],Jm⟩,rfl,Jm,d,rfl,rfl,rfl⟩
  .cases h
 .exact C0
 .exact Cj
 .rintro⟨⟨a,b,c⟩,n,f⟩ μ d;replace d:n<=100000:=d;refine AB _ ?_;(repeat' first|constructor|refine Iu λe=> ?_|intro h)<;>refine Lm ?_
  all_goals(first
   |exact An
   |exact e
   |skip)
section
variable{α:Type} (d:α) (lt:α->α->Bool)
def FJ(l:List α)(i j:Nat):List α:=(l.set i (l.getD j d)).set j (l.getD i d)
def HW(a:Nat):Nat->List α->List α
 |0,l=>l
 |j+1,l=>if a<j+1/\lt (l.getD (j+1) d) (l.getD j d)=true then HW a j (FJ d l (j+1) j)else l
def MF(a:Nat):Nat->Nat->List α->List α
 |0,_,l=>l
 |k+1,i,l=>MF a k (i+1) (HW d lt a i l)
def HP(a b:Nat)(l:List α):List α:=MF d lt a (b-(a+1)) (a+1) l
def MY(a b:Nat):Nat->Nat->List α->List α
 |0,_,l=>l
 |k+1,i,l=>MY a b k (i+1) (FJ d l (a+i) (b+i))
def Ut(m:Nat):Nat->Nat->Nat->List α->List α
 |0,_,_,l=>l
 |f+1,i,j,l=>if i=j then MY d (m-i) m i 0 l else if j<i then Ut m f (i-j) j (MY d (m-i) m j 0 l)else Ut m f i (j-i) (MY d (m-i) (m+j-i) i 0 l)
def JF(a m b:Nat)(l:List α):List α:=Ut d m (b-a) (m-a) (b-m) l
def IB(p:Nat->Bool):Nat->Nat->Nat->Nat
 |0,i,_=>i
 |f+1,i,j=>if i<j then(if p ((i+j)/2)=true then IB p f ((i+j)/2+1) j else IB p f i ((i+j)/2))else i
def So:Nat->Nat->List α->List α
 |0,_,l=>l
 |n+1,k,l=>So n (k+1) (FJ d l k (k+1))
def TZ:Nat->Nat->List α->List α
 |0,_,l=>l
 |n+1,k,l=>TZ n (k-1) (FJ d l k (k-1))
def IF(a m b:Nat)(l:List α):Nat:=
 if(a+b)/2<m then IB (λc=> !lt (l.getD ((a+b)/2+m-1-c) d) (l.getD c d)) ((a+b)/2-((a+b)/2+m-b)) ((a+b)/2+m-b) ((a+b)/2)
 else IB (λc=> !lt (l.getD ((a+b)/2+m-1-c) d) (l.getD c d)) (m-a) a m
def GD(a m b s:Nat)(l:List α):List α:=if s<m/\m<(a+b)/2+m-s then JF d s m ((a+b)/2+m-s) l else l
def SU(a m b:Nat)(l:List α):Nat:=IB (λh=>lt (l.getD h d) (l.getD a d)) (b-m) m b
def Ve(a m:Nat)(l:List α):Nat:=IB (λh=> !lt (l.getD m d) (l.getD h d)) (m-a) a m
def EV:Nat->Nat->Nat->Nat->List α->List α
 |0,_,_,_,l=>l
 |f+1,a,m,b,l=>
  if m-a=1 then So d (SU d lt a m b l-1-a) a l
  else if b-m=1 then TZ d (m-Ve d lt a m l) m l
  else
   if(a+b)/2<(a+b)/2+m-IF d lt a m b l/\(a+b)/2+m-IF d lt a m b l<b then
    EV f ((a+b)/2) ((a+b)/2+m-IF d lt a m b l) b (if a<IF d lt a m b l/\IF d lt a m b l<(a+b)/2 then EV f a (IF d lt a m b l) ((a+b)/2) (GD d a m b (IF d lt a m b l) l)else GD d a m b (IF d lt a m b l) l)
   else if a<IF d lt a m b l/\IF d lt a m b l<(a+b)/2 then EV f a (IF d lt a m b l) ((a+b)/2) (GD d a m b (IF d lt a m b l) l)else GD d a m b (IF d lt a m b l) l
def Ph(n:Nat):Nat->Nat->List α->List α
 |0,a,l=>HP d lt a n l
 |f+1,a,l=>if a+20<=n then Ph n f (a+20) (HP d lt a (a+20) l)else HP d lt a n l
def MD(n b:Nat):Nat->Nat->List α->List α
 |0,a,l=>if a+b<n then EV d lt n a (a+b) n l else l
 |f+1,a,l=>if a+2*b<=n then MD n b f (a+2*b) (EV d lt n a (a+b) (a+2*b) l)else if a+b<n then EV d lt n a (a+b) n l else l
def PR(n:Nat):Nat->Nat->List α->List α
 |0,_,l=>l
 |f+1,a,l=>if a<n then PR n f (2*a) (MD d lt n a n 0 l)else l
def Qm(l:List α):List α:=PR d lt l.length l.length 20 (Ph d lt l.length l.length 0 l)
structure Sub (l' l:List α):Prop where
 len:l'.length=l.length
 mem:∀x∈l',x∈l
 perm:l'.Perm l
theorem Sub.refl(l:List α):Sub l l:=⟨rfl,λ_ h=>h,.refl l⟩
theorem Sub.trans{a b c:List α}(h:Sub a b)(k:Sub b c):Sub a c:=⟨h.1.trans k.1,λx hx=>k.2 x (h.2 x hx),h.3.trans k.3⟩
variable{d lt}
theorem f1t{l:List α}{i j:Nat}(hi:i<l.length)(hj:j<l.length):(FJ d l i j).Perm l:=by
 have h:=Array.swap_perm (xs:=l.toArray) (i:=i) (j:=j) Et Er;have e:(l.toArray.swap i j Et Er).toList=FJ d l i j:=by simp[Array.swap,FJ,hi,hj]
 have:=Array.perm_iff_toList_perm.1 h;rw[e]at this;simpa using this
theorem Rt{l:List α}{i j:Nat}(hi:i<l.length)(a:j<l.length):Sub (FJ d l i j) l:=by have h:=f1t (d:=d) hi a;exact⟨h.length_eq,λx hx=>h.mem_iff.1 hx,h⟩
theorem b70{a:Nat}:∀(j:Nat) (l:List α),j<l.length->Sub (HW d lt a j l) l
 |0,l,_=>Sub.refl l
 |j+1,l,h=>by
  unfold HW;split
  .have hs:=Rt (d:=d) (l:=l) (i:=j+1) (j:=j) h Dz;exact(b70 j _ F4).trans hs
  .exact Sub.refl l
theorem b8u{a:Nat}:∀(k i:Nat) (l:List α),i+k<=l.length->Sub (MF d lt a k i l) l
 |0,_,l,_=>Sub.refl l
 |k+1,i,l,h=>by unfold MF;have hs:=b70 (d:=d) (lt:=lt) (a:=a) i l Dz;exact(b8u k (i+1) _ F4).trans hs
theorem Xf{a b:Nat}{l:List α}(h:b<=l.length):Sub (HP d lt a b l) l:=by
 unfold HP;by_cases e:a+1<=b
 .exact b8u _ _ _ Dz
 .rw[show b-(a+1)=0 from Dz];exact Sub.refl l
theorem Wm{a b:Nat}:∀(k i:Nat) (l:List α),a+i+k<=l.length->b+i+k<=l.length->Sub (MY d a b k i l) l
 |0,_,l,_,_=>Sub.refl l
 |k+1,i,l,h1,h2=>by unfold MY;have hs:=Rt (d:=d) (l:=l) (i:=a+i) (j:=b+i) Dz Dz;exact(Wm k (i+1) _ F4 F4).trans hs
theorem b98{m:Nat}:∀(f i j:Nat) (l:List α),i<=m->m+j<=l.length->Sub (Ut d m f i j l) l
 |0,i,j,l,_,_=>Sub.refl l
 |f+1,i,j,l,h1,h3=>by
  unfold Ut;split
  .exact Wm _ _ _ Dz Dz
  .split
   .have hs:=Wm (d:=d) (a:=m-i) (b:=m) j 0 l Dz Dz;exact(b98 f (i-j) j _ Dz F4).trans hs
   .have hs:=Wm (d:=d) (a:=m-i) (b:=m+j-i) i 0 l Dz Dz;exact(b98 f i (j-i) _ Dz F4).trans hs
theorem SY{a m b:Nat}{l:List α}(h:m<=b)(hb:b<=l.length):Sub (JF d a m b l) l:=b98 _ _ _ _ Dz Dz
theorem VI{p:Nat->Bool}:∀(f i j:Nat),i<=j->i<=IB p f i j/\IB p f i j<=j
 |0,i,j,h=>⟨Jp _,h⟩
 |f+1,i,j,h=>by
  unfold IB;split
  .split
   .have:=VI (p:=p) f ((i+j)/2+1) j Dz;omega
   .have:=VI (p:=p) f i ((i+j)/2) Dz;omega
  .omega
theorem d57:∀(n k:Nat) (l:List α),k+n<l.length\/n=0->Sub (So d n k l) l
 |0,_,l,_=>Sub.refl l
 |n+1,k,l,h=>by unfold So;have hs:=Rt (d:=d) (l:=l) (i:=k) (j:=k+1) Dz Dz;exact(d57 n (k+1) _ F4).trans hs
theorem d6j:∀(n k:Nat) (l:List α),k<l.length->Sub (TZ d n k l) l
 |0,_,l,_=>Sub.refl l
 |n+1,k,l,h=>by unfold TZ;have hs:=Rt (d:=d) (l:=l) (i:=k) (j:=k-1) Dz Dz;exact(d6j n (k-1) _ F4).trans hs
theorem d9e{a m b:Nat}{l:List α}(h1:a<m)(h2:m<b):a<=IF d lt a m b l/\IF d lt a m b l<=m/\(a+b)/2+m-IF d lt a m b l<=b/\m<=(a+b)/2+m-IF d lt a m b l:=by
 unfold IF;split
 .have:=VI (p:=λc=> !lt (l.getD ((a+b)/2+m-1-c) d) (l.getD c d)) ((a+b)/2-((a+b)/2+m-b)) ((a+b)/2+m-b) ((a+b)/2) Dz;omega
 .have:=VI (p:=λc=> !lt (l.getD ((a+b)/2+m-1-c) d) (l.getD c d)) (m-a) a m Dz;omega
theorem f3n{a m b s:Nat}{l:List α}(_:s<=m)(c:(a+b)/2+m-s<=l.length):Sub (GD d a m b s l) l:=by
 unfold GD;split
 .exact SY Dz c
 .exact Sub.refl l
theorem MW:∀(f a m b:Nat) (l:List α),a<m->m<b->b<=l.length->Sub (EV d lt f a m b l) l
 |0,_,_,_,l,_,_,_=>Sub.refl l
 |f+1,a,m,b,l,n,o,i=>by
  unfold EV;have j:=d9e (d:=d) (lt:=lt) (l:=l) n o;generalize IF d lt a m b l=s at j;have c:=f3n (d:=d) (a:=a) (b:=b) (l:=l) j.2.1 Dz;have k:a<s/\s<(a+b)/2->Sub (EV d lt f a s ((a+b)/2) (GD d a m b s l)) l:=λh=>(MW f a s _ _ h.1 h.2 (by rw[c.1];omega)).trans c;split
  .have:=VI (p:=λh=>lt (l.getD h d) (l.getD a d)) (b-m) m b Dz;unfold SU;exact d57 _ _ _ Dz
  .split
   .exact d6j _ _ _ Dz
   .split
    .rename_i e;split
     .rename_i g;have:=k g;exact(MW f _ _ b _ e.1 e.2 (by rw[this.1];exact i)).trans this
     .exact(MW f _ _ b _ e.1 e.2 (by rw[c.1];exact i)).trans c
    .split
     .rename_i g;exact k g
     .exact c
theorem d0f{n:Nat}:∀(f a:Nat) (l:List α),n<=l.length->Sub (Ph d lt n f a l) l
 |0,a,l,h=>Xf h
 |f+1,a,l,h=>by
  unfold Ph;split
  .have hs:=Xf (d:=d) (lt:=lt) (a:=a) (b:=a+20) (l:=l) Dz;exact(d0f f (a+20) _ (by rw[hs.1];exact h)).trans hs
  .exact Xf h
theorem d0v{n b:Nat}(c:0<b):∀(f a:Nat) (l:List α),n<=l.length->Sub (MD d lt n b f a l) l
 |0,a,l,h=>by
  unfold MD;split
  .exact MW _ _ _ _ _ Dz Dz h
  .exact Sub.refl l
 |f+1,a,l,h=>by
  unfold MD;split
  .have hs:=MW (d:=d) (lt:=lt) n a (a+b) (a+2*b) l Dz Dz Dz;exact(d0v c f _ _ (by rw[hs.1];exact h)).trans hs
  .split
   .exact MW _ _ _ _ _ Dz Dz h
   .exact Sub.refl l
theorem c9b{n:Nat}:∀(f a:Nat) (l:List α),0<a->n<=l.length->Sub (PR d lt n f a l) l
 |0,_,l,_,_=>Sub.refl l
 |f+1,a,l,b,h=>by
  unfold PR;split
  .have hs:=d0v (d:=d) (lt:=lt) b n 0 l h;exact(c9b f (2*a) _ Dz (by rw[hs.1];exact h)).trans hs
  .exact Sub.refl l
theorem b6c(l:List α):Sub (Qm d lt l) l:=by unfold Qm;have hs:=d0f (d:=d) (lt:=lt) l.length 0 l (Jp _);exact(c9b _ _ _ Dz (by rw[hs.1];exact Jp _)).trans hs
end
theorem RT.row_isL{α:Type}(R:RT α){n:Nat}{f:Nat->List SV}(a:R.isL n f):∀i,i<n->Hl (f i) (R.row (R.lst n f) i):=by intro i hi;have e:R.row (R.lst n f) i=R.sv (R.of (f i)):=Id;rw[e];exact a i hi
theorem b7c{α:Type}{d:α}{l:List α}{i j k:Nat}(hi:i<l.length)(hj:j<l.length):(FJ d l i j).getD k d=if k=j then l.getD i d else if k=i then l.getD j d else l.getD k d:=by
 unfold FJ;simp only[Jg];by_cases a:k=j
 .subst a;rw[Ji rfl,Kv Er];simp
 .rw[Jj a,Jz (Ne.symm a)];by_cases b:k=i
  .subst b;rw[Ji rfl,Kv hi];simp
  .rw[Jj b,Jz (Ne.symm b)]
theorem b3n{α:Type}{d:α}{l:List α}{i j:Nat}:(FJ d l i j).length=l.length:=by simp[FJ]
def LH(l:List Int):Nat->List Int
 |0=>l
 |i+1=>FJ 0 (LH l i) i (l.length-1-i)
theorem b09(l:List Int):∀i,(LH l i).length=l.length
 |0=>rfl
 |i+1=>by simp[LH,b3n,b09 l i]
theorem d16(l:List Int):∀i,2*i<=l.length->∀k,k<l.length->(LH l i).getD k 0=l.getD (if k<i\/l.length<=k+i then l.length-1-k else k) 0
 |0,_,k,b=>by rw[Jj Dz];rfl
 |i+1,h,k,b=>by
  have a:=d16 l i Dz;have hl:=b09 l i;simp only[LH];rw[b7c Dz Dz];by_cases c:k=l.length-1-i
  .rw[Ji c,a i Dz,Jj Dz,Ji Dz];congr 1;omega
  .rw[Jj c];by_cases d:k=i
   .rw[Ji d,a _ Dz,Jj Dz,Ji Dz];congr 1;omega
   .rw[Jj d,a k b];by_cases e:k<i\/l.length<=k+i
    .rw[Ji e,Ji Dz]
    .rw[Jj e,Jj Dz]
theorem f5d(l:List Int){i:Nat}(b:2*i<=l.length)(h2:l.length<=2*i+1):LH l i=l.reverse:=by
 apply Nx
 .simp[b09]
 .intro k c h4;have a:k<l.length:=Fk;have:=d16 l i b k a;simp only[J8,Jh c]at this;rw[this,List.getElem_reverse];by_cases e:k<i\/l.length<=k+i
  .rw[Ji e,Jh Dz,L5]
  .rw[Jj e,Jh a,L5];congr 1;omega
def f5f:HK:=λa own=>match a,own with
 | [.osl 0],[.row T 1 n f _]=>if T=3 then some ⟨AC.isL n f/\n<=100000,.tup [],[.row 3 1 (AC.lst n f).length (AC.row (AC.lst n f).reverse) none],[]⟩else none
 |_,_=>none
def FRevI:FamH:=⟨List Int,λ_=>[.osl 0],λl=>[.row 3 1 l.length (AC.row l) none],λl=>l.length<=100000,λ_=>.tup [],λl=>[.row 3 1 l.length (AC.row l.reverse) none],[]⟩
def IRevI:List Int->Nat->Option Inv
 |l,1=>some {β:=Nat,ok:=λi=>2*i<=l.length,st:=λi=>⟨[⟨3,none,.int .i64 ((l.length:Int)-1-i)⟩,⟨2,none,.int .i64 i⟩,⟨0,none,.osl 0⟩],[.row 3 1 l.length (AC.row (LH l i)) none]⟩,μ:=λi=>l.length-i}
 |_,_=>none
theorem f9k{l:List Int}{i q:Nat}{x y:Int}(h:2*i+2<=l.length)(hx:x=(LH l i).getD i 0)(c:y=(LH l i).getD (l.length-1-i) 0):EN (decide (q=l.length-1-i)) [.int .i64 x] (EN (decide (q=i)) [.int .i64 y] (AC.row (LH l i) q))=AC.row (LH l (i+1)) q:=by
 have hl:=b09 l i;have d:AC.row (LH l i) q=[.int .i64 ((LH l i).getD q 0)]:=rfl;have e:AC.row (LH l (i+1)) q=[.int .i64 ((LH l (i+1)).getD q 0)]:=rfl;rw[d,e];simp only[EN,Sz,L1,LH];rw[b7c Dz Dz,hx,c];by_cases a:q=l.length-1-i
 .simp[a]
 .by_cases b:q=i
  .subst b;simp[a]
  .simp[a,b]
theorem ov_row(L:List Int)(i:Nat)(x:Int):over (AC.row L i) 0 [SV.int .i64 x]=[SV.int .i64 x]:=rfl
theorem ov_mix(b:Bool)(L:List Int)(i:Nat)(x y:Int):over (EN b [SV.int .i64 x] (AC.row L i)) 0 [SV.int .i64 y]=[SV.int .i64 y]:=by cases b<;>rfl
theorem pRevI:HS 70 f5f:=by
 refine JO {} ⟨E2,E2,E2⟩ FRevI IRevI f5f ?_ ?_ ?_ Tryz.func70 E1 E1 E1 ?_
 .intro args own r h a;unfold f5f at h;split at h
  .rename_i T n f c;split at h
   .rename_i e;subst e;cases h;exact⟨AC.lst n f,⟨Ea,Jm⟩,rfl,⟨⟨Em,(RT.lst_length AC n f).symm,Jm,RT.row_isL AC a.1⟩,Jm⟩,by simp only[FRevI,RT.lst_length];exact a.2,rfl,rfl,rfl⟩
   .cases h
  .cases h
 .exact C0
 .exact C5
 .intro(l:List Int) μ a;replace a:l.length<=100000:=a;refine X0a _ ?_;(repeat' first|constructor|intro h)<;>refine Lm ?_
  all_goals(try(simp only[AD];omega))
  refine⟨(0:Nat),Jw _,?_,?_⟩
  .exact X0e
  .intro i d;replace d:2*i<=l.length:=d;have g:((l.length:Int)-1-i).toNat=l.length-1-i:=Dz;refine X0a _ ?_;(repeat' first|constructor|intro h)<;>refine Lm ?_
   all_goals(try simp only[Ir,g]at*)
   all_goals(try first
    |exact Ap
    |exact Aw
    |(show i<l.length;omega)
    |(show l.length-1-i<l.length;omega)
    |(intro q hq;rw[f5d l d Dz]))
   refine⟨i+1,Dz,Dz,?_⟩;all_goals refine X0a _ ?_;(repeat' first|constructor|intro h)<;>refine Lm ?_
   all_goals(first
    |omega
    |rfl
    |(intro q _
      have j:2*i+2<=l.length:=Dz;rw[ov_row,ov_mix];exact f9k (l:=l) (i:=i) (q:=q) (x:=(LH l i).getD i 0) (y:=(LH l i).getD (l.length-1-i) 0) j rfl rfl))
def DG(s:Stk):Stk:=⟨s.c,s.l.reverse⟩
def f5t:List SV:=[.int .i64 0,.int .i64 0,.int .u8 0,.con (.slice none 0 0)]
def Sk(L:List Stk)(i q:Nat):List SV:=[.int .i64 (if q<i then(L.getD q AA.d).c.x else 0),.int .i64 (if q<i then(L.getD q AA.d).c.y else 0),.int .u8 (if q<i then(L.getD q AA.d).c.q else 0),if q<i then .sl 1 (L.getD q AA.d).l.reverse.length (AC.row (L.getD q AA.d).l.reverse) none else .con (.slice none 0 0)]
theorem f54{L:List Stk}{i q:Nat}(h:q<i):Sk L i q=AA.sv (DG (L.getD q AA.d)):=by simp only[Sk,Ji h];rfl
theorem f1f{L:List Stk}{i q:Nat}(h:¬q<i):Sk L i q=f5t:=by simp only[Sk,Jj h];rfl
theorem g4j{L:List Stk}{i q:Nat}:EN (decide (q=i)) (AA.sv (DG (L.getD i AA.d))) (Sk L i q)=Sk L (i+1) q:=by
 by_cases e:q=i
 .subst e;rw[f54 (Nat.lt_succ_self _),f1f (N0 _),K3 rfl];rfl
 .rw[K4 e];by_cases h:q<i
  .rw[f54 h,f54 Dz];rfl
  .rw[f1f h,f1f Dz];rfl
theorem rv_all{L:List Stk}{q:Nat}(h:q<L.length):Sk L L.length q=AA.row (L.map DG) q:=by rw[f54 h];simp[RT.row,h]
def UN:AH
 | [x]=>(LB x).map λq=>(q.1,.sl 4 (q.2.map DG).length (AA.row (q.2.map DG)) (some (q.2.map DG).length))
 |_=>none
def FStRev:Fam:=⟨List Stk,λL=>[EW L],λL=>CT L,λL=>.sl 4 (L.map DG).length (AA.row (L.map DG)) (some (L.map DG).length)⟩
def IStRev:List Stk->Nat->Option Inv
 |L,3=>some {β:=Nat,ok:=λi=>i<=L.length,st:=λi=>⟨[⟨11,none,.int .i64 i⟩,⟨10,none,.int .i64 L.length⟩,⟨9,none,EW L⟩,⟨3,none,.osl 0⟩],[.row 121 4 L.length (Sk L i) (some L.length)]⟩,μ:=λi=>L.length-i}
 |_,_=>none
theorem pStRev:PS 23 UN:=by
 refine LV {h:=[(60,b6w),(70,f5f)],gr:=λid=>bif Nat.beq id 6 then [.fz 2,.flat 0]else []} ⟨E2,E2,by simpa using⟨d00,pRevI⟩⟩ FStRev IStRev UN ?_ ?_ Tryz.func23 E1 E1 E1 ?_
 .intro args pre s h a;unfold UN at h;split at h
  .rename_i x;simp only[It]at h;obtain⟨⟨q,L⟩,hx,rfl,rfl⟩:=h;obtain⟨g,j⟩:=PC hx a;exact⟨L,⟨g,Jm⟩,j,rfl⟩
  .cases h
 .exact C0
 .intro(L:List Stk) a;replace a:CT L:=a;have hl:=a.1;refine X0a _ ?_;(repeat' first|constructor|intro h)<;>refine Lm ?_
  .refine⟨Dz,Dz,?_,Dz⟩;exact Rj E1 Dz Dz
  refine⟨(0:Nat),Jw _,?_,?_⟩
  .refine X0b _ ?_;(repeat' first|constructor|intro h)<;>refine Lm ?_
   all_goals first|rfl|exact K0 _|exact Mj some (K0 _)|(intro q _;exact .inl (by rw[f1f (K5 _)];rfl))|exact A5|skip
  .intro i c;replace c:i<=L.length:=c;have hx:i<L.length->(L.getD i AA.d).l.length<=100000:=λh=>a.2 _ Hy;refine X0b _ ?_;(repeat' first|constructor|intro h)<;>refine Lm ?_
   all_goals(try simp only[Ir,RT.lst_row]at*)
   all_goals(try first
    |omega
    |exact hx Dz
    |(show i<L.length;omega)
    |(show i=i;rfl)
    |exact⟨AC.isL_row _,hx Dz⟩
    |exact A3
    |(simp;done)
    |(intro q f;left
      have e:i=L.length:=Dz;rw[e];exact rv_all f))
   refine⟨i+1,Dz,Dz,?_⟩;all_goals refine X0b _ ?_;(repeat' first|constructor|intro h)<;>refine Lm ?_
   all_goals(try simp only[K0,RT.lst_row])
   all_goals first
    |omega
    |exact Ba
    |(intro q f;left
      have e:=@g4j L i q;simp only[AA,DG,O0]at e;exact e)
    |skip
def c1p:HK:=λa own=>match a,own with
 | [.con (.slice none 0 0),.int .i64 n],[]=>some ⟨0<n/\n<=200000,.osl 0,[.row 121 4 0 (λ_=>[]) none],[]⟩
 |_,_=>none
def g2n:FamH:=⟨Int,λn=>[.sl 4 0 (λ_=>[]) (some 0),.int .i64 n],λ_=>[],λn=>0<n/\n<=200000,λ_=>.osl 0,λ_=>[.row 121 4 0 (λ_=>[]) none],[]⟩
theorem g1b:HS 127 c1p:=by
 refine JO {G:={gx:=c13 4 121 4}} ⟨E2,E2,E2⟩ g2n (λ_ _=>none) c1p ?_ ?_ ?_ Tryz.func127 E1 E1 E1 ?_
 .intro args own r h a;unfold c1p at h;split at h
  .rename_i n;cases h;exact⟨n,⟨by simp[SV.le2,SV.le1,SV.le0,HN],Ea,Jm⟩,rfl,Jm,a,rfl,rfl,rfl⟩
  .cases h
 .exact Bz
 .exact Cj
 .intro(n:Int) μ a;replace a:0<n/\n<=200000:=a;obtain⟨h1,h2⟩:=a;refine X0a _ ?_;(repeat' first|constructor|intro h)<;>refine Lm ?_
  all_goals(try simp only[Iz]at*)
  all_goals first
   |(exfalso;omega)
   |exact A6
   |omega
   |exact⟨rfl,Dz,Dz,Dz⟩
   |(refine⟨⟨Dz,Dz⟩,Dz,Dz,?_⟩;exact MQ E1 Dz)
   |(intro i hi;omega)
   |skip
def Sy(x:SV):Option (Prop×List Stk):=(AA.as x).map λq=>(AA.is q.1 q.2/\q.1<=100000/\∀s∈AA.lst q.1 q.2,s.l.length<=100000,AA.lst q.1 q.2)
theorem b53{x:SV}{q:Prop}{L:List Stk}(h:Sy x=some (q,L))(hq:q):x.lf (EW L)/\CT L:=by
 unfold Sy at h;simp only[It]at h;obtain⟨⟨n,f⟩,hx,rfl,rfl⟩:=h;refine⟨?_,Hk,hq.2.2⟩;unfold RT.as at hx;split at hx
 .split at hx
  .rename_i a;cases hx;refine⟨(RT.lst_length AA _ _).symm,by rw[Ji (by exact a)];trivial,Jm,AA.row_lst hq.1⟩
  .cases hx
 .cases hx;exact⟨by simp[RT.lst],Jm⟩
 .cases hx
theorem c4s{α:Type}(R:RT α)(A B:List α)(q:Nat):(if q<A.length then R.row A q else R.row B (q-A.length))=R.row (A++B) q:=by
 unfold RT.row;by_cases h:q<A.length
 .rw[Ji h];simp[Jt h]
 .rw[Jj h];simp[Jy (Nat.le_of_not_lt h)]
def b9c:AH
 | [.sl 1 2 g _]=>match g 0,g 1 with
   | [x],[y]=>match Sy x,Sy y with
     |some (p,A),some (q,B)=>some ((p/\q)/\0<A.length+B.length,EW (A++B))
     |_,_=>none
   |_,_=>none
 |_=>none
def f3f(A B:List Stk)(j:Nat):List SV:=bif Nat.beq j 0 then [EW A]else [EW B]
def g4f:Fam:=⟨List Stk×List Stk,λ(A,B)=>[.sl 1 2 (f3f A B) none],λ(A,B)=>(CT A/\CT B)/\0<A.length+B.length,λ(A,B)=>EW (A++B)⟩
def d7k(A B:List Stk)(i:Nat):Int:=if i=0 then 0 else if i=1 then A.length else A.length+B.length
def d74(A B:List Stk)(i:Nat):List Stk:=if i=0 then []else if i=1 then A else A++B
def g43:List Stk×List Stk->Nat->Option Inv
 |(A,B),3=>some {β:=Nat,ok:=λi=>i<=2,st:=λi=>⟨[⟨11,none,.int .i64 i⟩,⟨10,none,.int .i64 2⟩,⟨9,none,.sl 1 2 (f3f A B) none⟩,⟨3,none,.int .i64 (d7k A B i)⟩,⟨0,none,.sl 1 2 (f3f A B) none⟩],[]⟩,μ:=λi=>2-i}
 |(A,B),11=>some {β:=Nat,ok:=λi=>i<=2,st:=λi=>⟨[⟨27,none,.int .i64 i⟩,⟨26,none,.int .i64 2⟩,⟨25,none,.sl 1 2 (f3f A B) none⟩,⟨6,none,.osl 0⟩],[.row 121 4 (d74 A B i).length (AA.row (d74 A B i)) none]⟩,μ:=λi=>2-i}
 |_,_=>none
theorem g3c:PS 75 b9c:=by
 refine LV {h:=[(127,c1p)]} ⟨E2,E2,by simpa using g1b⟩ g4f g43 b9c ?_ ?_ Tryz.func75 E1 E1 E1 ?_
 .intro args pre s h k;unfold b9c at h;split at h
  .rename_i g c;split at h
   .rename_i x y f l;split at h
    .rename_i p A q B hx m;cases h;obtain⟨⟨n,o⟩,r⟩:=k;obtain⟨t,u⟩:=b53 hx n;obtain⟨v,w⟩:=b53 m o;refine⟨(A,B),⟨JL ⟨rfl,Fc,Jm,λi b=> ?_⟩,Jm⟩,⟨⟨u,w⟩,r⟩,rfl⟩;have:i=0\/i=1:=Dz;rcases this with rfl|rfl
     .rw[f];exact .inr ⟨t,Jm⟩
     .rw[l];exact .inr ⟨v,Jm⟩
    .cases h
   .cases h
  .cases h
 .exact C0
 .rintro⟨A,B⟩ ⟨⟨⟨hA,_⟩,hB,_⟩,f⟩;refine X0a _ ?_;(repeat' first|constructor|intro h)<;>refine Lm ?_
  all_goals(try simp only[]at*)
  refine⟨(0:Nat),Dz,?_,?_⟩
  .exact X2d
  .intro i b;replace b:i<=2:=b;have d:i=0\/i=1\/i=2:=Dz;rcases d with rfl|rfl|rfl
   .refine X0b _ ?_;(repeat' first|constructor|intro h)<;>refine Lm ?_
    all_goals(try first
     |exact B7)
    refine⟨1,Dz,Dz,?_⟩;all_goals refine X0b _ ?_;(repeat' first|constructor|intro h)<;>refine Lm ?_
    all_goals first|rfl|(simp[d7k];done)|exact A5|skip
   .refine X0b _ ?_;(repeat' first|constructor|intro h)<;>refine Lm ?_
    all_goals(try first
     |exact B7)
    refine⟨2,Dz,Dz,?_⟩;all_goals refine X0b _ ?_;(repeat' first|constructor|intro h)<;>refine Lm ?_
    all_goals first|rfl|(simp[d7k];done)|exact A5|skip
   .refine X0b _ ?_;(repeat' first|constructor|intro h)<;>refine Lm ?_
    all_goals(try first
     |exact B7)
    refine⟨(0:Nat),Dz,?_,?_⟩
    .refine X0b _ ?_;(repeat' first|constructor|intro h)<;>refine Lm ?_
     all_goals first|exact Ba|(intro q z;exact absurd z (K5 _))|skip
    .intro i b;replace b:i<=2:=b;have c0:d74 A B 0=[]:=rfl;have c1:d74 A B 1=A:=rfl;have j:d74 A B 2=A++B:=rfl;have d:i=0\/i=1\/i=2:=Dz;rcases d with rfl|rfl|rfl
     .refine X0b _ ?_;(repeat' first|constructor|intro h)<;>refine Lm ?_
      all_goals(try first
       |exact A3
       |exact⟨by simp only[c0,N7];omega,MQ E1 (by simp only[c0,N7];omega)⟩)
      refine⟨1,Dz,Dz,?_⟩;all_goals refine X0b _ ?_;(repeat' first|constructor|intro h)<;>refine Lm ?_
      all_goals first
       |rfl
       |(simp only[c0,c1,N7,Jf];done)
       |exact A5
       |(intro q _;left;have e:=c4s AA [] A q;exact e)
       |skip
     .refine X0b _ ?_;(repeat' first|constructor|intro h)<;>refine Lm ?_
      all_goals(try first
       |exact A3
       |exact⟨by simp only[c1];omega,MQ E1 (by simp only[c1];omega)⟩)
      refine⟨2,Dz,Dz,?_⟩;all_goals refine X0b _ ?_;(repeat' first|constructor|intro h)<;>refine Lm ?_
      all_goals first
       |rfl
       |(simp only[c1,j,Jf];done)
       |exact A5
       |(intro q _;left;have e:=c4s AA A B q;exact e)
       |skip
     .exact X2d
def FQ(c:Cl):List Int:=[c.x,c.y,c.q]
theorem c0q{a b:Cl}(h:FQ a=FQ b):a=b:=by cases a;cases b;simp[FQ]at h;simp[h]
abbrev OS:=List (Stk×Bool)
def dO:Stk×Bool:=(AA.d,false)
def kO(O:OS):List (List Int):=O.map λo=>FQ o.1.c
def GI(O:OS)(q:List Int):Option Nat:=(kO O).findIdx? λk=>decide (k=q)
def Ud(O:OS)(q:List Int):Bool:=(GI O q).isSome
def UE(O:OS)(q:List Int):Int:=((GI O q).getD 0:Nat)
def Qf(O:OS)(x:Stk):OS:=match GI O (FQ x.c)with
 |some k=>O.set k (⟨x.c,(O.getD k dO).1.l++x.l⟩,false)
 |none=>O++[(x,true)]
def oF(L:List Stk)(i:Nat):OS:=(L.take i).foldl Qf []
def ND(O:OS)(j:Nat):List SV:=[.int .i64 (O.getD j dO).1.c.x,.int .i64 (O.getD j dO).1.c.y,.int .u8 (O.getD j dO).1.c.q,.sl 1 (O.getD j dO).1.l.length (AC.row (O.getD j dO).1.l) (if(O.getD j dO).2=true then some (O.getD j dO).1.l.length else none)]
def OP(s:Stk):List Int:=[s.c.y,s.c.x,s.c.q]
def Fl(L:List Stk):List Stk:=FD OP ((oF L L.length).map (·.1))
def NC(L:List Stk):Prop:=0<L.length/\L.length<=100000/\(∀s∈L,AD .u8 s.c.q/\s.l≠[]/\s.l.length<=100000)/\
 ∀i k,i<L.length->GI (oF L i) (FQ (L.getD i AA.d).c)=some k->((oF L i).getD k dO).2=true/\((oF L i).getD k dO).1.l.length+(L.getD i AA.d).l.length<=100000
theorem UW{O:OS}{q:List Int}{k:Nat}(h:GI O q=some k):k<O.length/\FQ (O.getD k dO).1.c=q:=by
 unfold GI at h;rw[L7]at h;obtain⟨d,a,_⟩:=h;have b:k<O.length:=by simpa[kO]using d
 refine⟨b,?_⟩;simp only[Ju]at a;rw[<-a];simp[kO,b]
theorem c9a{O:OS}{q:List Int}(h:GI O q=none):q∉kO O:=by unfold GI at h;rw[Lu]at h;intro a;have:=h q a;simp at this
theorem f80{O:OS}{k:Nat}{y:Stk×Bool}(h:k<O.length->FQ y.1.c=FQ (O.getD k dO).1.c):kO (O.set k y)=kO O:=by
 unfold kO;rw[List.map_set];apply Nx
 .simp
 .intro i h1 b;have a:i<O.length:=by simpa using b
  by_cases e:k=i
  .subst e;rw[List.getElem_set_self,Mq,h a];simp[a]
  .rw[List.getElem_set_ne e]
theorem d70{O:OS}{y:Stk×Bool}:kO (O++[y])=kO O++[FQ y.1.c]:=by simp[kO]
theorem Sa{O:OS}{x:Stk}{k:Nat}(h:GI O (FQ x.c)=some k):Qf O x=O.set k (⟨x.c,(O.getD k dO).1.l++x.l⟩,false):=by unfold Qf;rw[h]
theorem Sh{O:OS}{x:Stk}(h:GI O (FQ x.c)=none):Qf O x=O++[(x,true)]:=by unfold Qf;rw[h]
theorem d97{O:OS}{x:Stk}{k:Nat}(h:GI O (FQ x.c)=some k)(q:List Int):GI (Qf O x) q=GI O q:=by rw[Sa h];unfold GI;rw[f80 (λ_=>(UW h).2.symm)]
theorem c6w{O:OS}{x:Stk}(h:GI O (FQ x.c)=none)(q:List Int):GI (Qf O x) q=if q=FQ x.c then some O.length else GI O q:=by
 rw[Sh h];have a:(kO O).length=O.length:=by simp[kO]
 by_cases e:q=FQ x.c
 .subst e;rw[Ji rfl];unfold GI at h⊢;rw[d70,List.findIdx?_append,h];simp[a]
 .rw[Jj e];unfold GI;rw[d70,List.findIdx?_append];simp[Ne.symm e]
theorem Vc{L:List Stk}{i:Nat}(h:i<L.length):oF L (i+1)=Qf (oF L i) (L.getD i AA.d):=by unfold oF;rw[Lz,Jh h,List.foldl_append];simp[h]
theorem UQ{L:List Stk}:∀i,i<=L.length->(oF L i).length<=i/\(kO (oF L i)).Nodup/\(∀o∈oF L i,(∀P:Cl->Prop,(∀s∈L,P s.c)->P o.1.c))/\(0<i->0<(oF L i).length)
 |0,_=>by simp[oF,kO]
 |i+1,h=>by
  obtain⟨h1,j,l,h4⟩:=UQ (L:=L) i Dz;rw[Vc Dz];have m:L.getD i AA.d∈L:=by rw[Jg,Jh Dz,L5];exact Kj _
  cases hf:GI (oF L i) (FQ (L.getD i AA.d).c)with
  |some k=>
   have q:=UW hf;rw[Sa hf];refine⟨Eb,by rw[f80 (λ_=>q.2.symm)];exact j,λo f P g=> ?_,λ_=>by rw[Li];omega⟩;rcases Mn f with f|rfl
   .exact l o f P g
   .exact g (L.getD i AA.d) m
  |none=>
   rw[Sh hf];refine⟨Eb,?_,λo f P g=> ?_,λ_=>E2⟩
   .rw[d70,Mz];refine⟨j,E2,λa r b n=> ?_⟩;simp only[Kb]at n;subst n;intro e;exact c9a hf (e▸r)
   .rcases K6.1 f with f|f
    .exact l o f P g
    .simp only[Kb]at f;subst f;exact g (L.getD i AA.d) m
theorem c07{L:List Stk}(b:NC L):∀i,i<=L.length->∀o∈oF L i,o.1.l.length<=100000
 |0,_=>by simp[oF]
 |i+1,h=>by
  intro o a;rw[Vc Dz]at a;have e:L.getD i AA.d∈L:=by rw[Jg,Jh Dz,L5];exact Kj _
  cases hf:GI (oF L i) (FQ (L.getD i AA.d).c)with
  |some k=>
   rw[Sa hf]at a;rcases Mn a with a|rfl
   .exact c07 b i Dz o a
   .have:=(b.2.2.2 i k Dz hf).2;simpa using this
  |none=>
   rw[Sh hf]at a;rcases K6.1 a with a|a
   .exact c07 b i Dz o a
   .simp only[Kb]at a;subst a;exact(b.2.2.1 _ e).2.2
theorem oF_key{L:List Stk}{i:Nat}(h:i<=L.length):(((oF L i).map (·.1)).map OP).Nodup:=by have a:=(UQ i h).2.1;unfold kO at a;rw[M5];unfold List.Nodup at a⊢;rw[L2]at a⊢;refine a.imp λb e=>b ?_;simp only[Function.comp,OP,J9]at e;simp[FQ,e]
theorem d7x{L:List Stk}:(Fl L).length=(oF L L.length).length:=by simp[Fl,NM]
theorem f94{L:List Stk}(a:NC L):∀s∈Fl L,s.l.length<=100000:=by intro s hs;unfold Fl at hs;rw[Qn,Jx]at hs;obtain⟨o,b,rfl⟩:=hs;exact c07 a _ (Jp _) o b
section
open Go.Sort Go.Proofs Go.Shelf
def c1u:KI:=λ_ b n g a=>match a with
 | [.clo f []]=>if b=4/\f=77 then some (AA.isL n g/\n<=100000/\(∀s∈AA.lst n g,AD .u8 s.c.q)/\((AA.lst n g).map OP).Nodup,AA.row (FD OP (AA.lst n g)),false)else none
 |_=>none
theorem f5e(X Y Q U V R:Int):GM X Y Q U V R=BA [Y,X,Q] [V,U,R]:=by
 unfold GM SP BA BA BA BA CC;repeat' split
 all_goals(try omega)
theorem g0y:ES 76 c1u:=by
 refine sortE2 AA Tryz.sortStack rfl ⟨_,Tryz.func76,E1,E1⟩ (λw=>Tryz.isAgg121 w) (λw=>Tryz.sizeOf121 w) (λ_=>rfl) (λ_=>rfl) YB pOvr1 (enters_of Tryz.func77 E1 rfl) c1u ?_;intro T sz n g rest pre g' r h;unfold c1u at h;split at h;rotate_left
 .cases h
 rename_i f;split at h;rotate_left
 .cases h
 rename_i b;obtain⟨rfl,rfl⟩:=b;cases h;refine⟨rfl,rfl,[],OP,rfl,λa=>⟨a.1,a.2.1,λx hx y d=> ?_,a.2.2.2,rfl⟩⟩;refine⟨(AC.isL x.l.length (AC.row x.l)/\AC.isL y.l.length (AC.row y.l))/\AD .u8 x.c.q/\AD .u8 y.c.q,?_,⟨AC.isL_row _,AC.isL_row _⟩,a.2.2.1 x hx,a.2.2.1 y d⟩;have e:YB ([.agg (AA.sv x),.agg (AA.sv y)]++[])=some ((AC.isL x.l.length (AC.row x.l)/\AC.isL y.l.length (AC.row y.l))/\AD .u8 x.c.q/\AD .u8 y.c.q,.int .i64 (GM x.c.x x.c.y x.c.q y.c.x y.c.y y.c.q)):=rfl;rw[e,f5e];rfl
end
theorem c7m{x:SV}{q:Prop}{L:List Stk}(h:Sy x=some (q,L))(a:q):x.le2 (EW L):=by unfold Sy at h;simp only[It]at h;obtain⟨⟨n,f⟩,hx,rfl,rfl⟩:=h;exact JL (AA.as_le hx a.1)
theorem ov_of(O:OS)(j:Nat):AA.of (ND O j)=(O.getD j dO).1:=by have:AC.lst (O.getD j dO).1.l.length (AC.row (O.getD j dO).1.l)=(O.getD j dO).1.l:=RT.lst_row _ _;show stOf (ND O j)=_;unfold ND;have h:AC.as (.sl 1 (O.getD j dO).1.l.length (AC.row (O.getD j dO).1.l) (if(O.getD j dO).2=true then some (O.getD j dO).1.l.length else none))=some ((O.getD j dO).1.l.length,AC.row (O.getD j dO).1.l):=rfl;simp only[stOf,h,this]
theorem f6i(O:OS):AA.lst O.length (ND O)=O.map (·.1):=by
 apply Nx
 .simp[RT.lst]
 .intro i h1 a;have b:i<O.length:=by simpa using a
  simp[RT.lst,ov_of,b]
theorem ov_isL(O:OS):AA.isL O.length (ND O):=by intro i _;rw[ov_of];exact .inr ⟨by simp[SV.lf],by simp[SV.lf],by simp[SV.lf],⟨rfl,Fc,Jm,λ_ _=>rfl⟩,Jm⟩
theorem ov_set{O:OS}{k q:Nat}{d:Cl}{a b:List Int}(g:k<O.length)(hl:a=(O.getD k dO).1.l)(i:(O.getD k dO).1.c=d):
 Hl (EN (decide (q=k)) [.int .i64 (O.getD k dO).1.c.x,.int .i64 (O.getD k dO).1.c.y,.int .u8 (O.getD k dO).1.c.q,.sl 1 (a.length+b.length) (λj=>if j<a.length then AC.row a j else AC.row b (j-a.length)) none] (ND O q)) (ND (O.set k (⟨d,a++b⟩,false)) q):=by
 by_cases e:q=k
 .subst e;rw[K3 rfl];have f:(O.set q (⟨d,a++b⟩,false)).getD q dO=(⟨d,a++b⟩,false):=by simp[g]
  have m:ND (O.set q (⟨d,a++b⟩,false)) q=[.int .i64 d.x,.int .i64 d.y,.int .u8 d.q,.sl 1 (a++b).length (AC.row (a++b)) none]:=by unfold ND;rw[f];rfl
  rw[m,i];refine .inr ⟨rfl,rfl,rfl,⟨K8.symm,Fc,Jm,λj _=> ?_⟩,Jm⟩;exact c4s AC a b j
 .rw[K4 e];left;have f:(O.set k (⟨d,a++b⟩,false)).getD q dO=O.getD q dO:=by simp[Jz (Ne.symm e)]
  unfold ND;rw[f];rfl
theorem ov_app{O:OS}{x:Stk}{j:Nat}(hj:j<O.length+1):Hl (if j<O.length then ND O j else(List.map (λx:Nat×List SV=>x.snd) [(0,[.int .i64 x.c.x,.int .i64 x.c.y,.int .u8 x.c.q,.sl 1 x.l.length (AC.row x.l) (some x.l.length)])].reverse).getD (j-O.length) []) (ND (O++[(x,true)]) j):=by
 left;by_cases e:j<O.length
 .rw[Ji e];unfold ND;simp[Jt e]
 .have:j=O.length:=Dz;subst this;rw[Jj e,L3];unfold ND;simp[]
theorem f3t{O:OS}{x:Stk}(h:GI O (FQ x.c)=none)(q:List Int):KV (Ud O) (FQ x.c) q=Ud (Qf O x) q:=by
 unfold KV Ud;rw[c6w h];by_cases e:q=FQ x.c
 .rw[Ji e,K3 e];rfl
 .rw[Jj e,K4 e];rfl
theorem g1n{S:List Stk}{i q:Nat}{c:Option Nat}:Hl (EN (decide (q=i)) [.int .i64 (S.getD i AA.d).c.x,.int .i64 (S.getD i AA.d).c.y,.int .u8 (S.getD i AA.d).c.q,.sl 1 (S.getD i AA.d).l.length (AC.row (S.getD i AA.d).l) c] (AA.row S q)) (AA.row S q):=by
 by_cases e:q=i
 .subst e;rw[K3 rfl];right;exact⟨rfl,rfl,rfl,⟨rfl,Fc,H1,λ_ _=>rfl⟩,Jm⟩
 .rw[K4 e];left;rfl
def Vg:AH
 | [x,y]=>match Sy x,Sy y with
   |some (p,A),some (q,B)=>some ((p/\q)/\NC (A++B),.sl 4 (Fl (A++B)).length (AA.row (Fl (A++B))) (some (Fl (A++B)).length))
   |_,_=>none
 |_=>none
def FOver:Fam:=⟨List Stk×List Stk,λ(A,B)=>[EW A,EW B],λ(A,B)=>(CT A/\CT B)/\NC (A++B),λ(A,B)=>.sl 4 (Fl (A++B)).length (AA.row (Fl (A++B))) (some (Fl (A++B)).length)⟩
def ovMap(O:OS):Blk:=.map (.ints [.i64,.i64,.u8]) false (Ud O) (λq=>[.int .i64 (UE O q)])
def IOver:List Stk×List Stk->Nat->Option Inv
 |(A,B),4=>some {β:=Nat,ok:=λi=>i<=(A++B).length,st:=λi=>⟨[⟨18,none,.int .i64 i⟩,⟨17,none,.int .i64 (A++B).length⟩,⟨16,none,EW (A++B)⟩,⟨6,none,.osl 2⟩,⟨5,none,.omp 0⟩],[ovMap (oF (A++B) i),.dead,.row 121 4 (oF (A++B) i).length (ND (oF (A++B) i)) none]⟩,μ:=λi=>(A++B).length-i,nl:=[.slot 6 121 4]}
 |(A,B),15=>some {β:=Nat,ok:=λi=>i<=(Fl (A++B)).length,st:=λi=>⟨[⟨61,none,.int .i64 i⟩,⟨60,none,.int .i64 (Fl (A++B)).length⟩,⟨6,none,.osl 2⟩],[.dead,.dead,.row 121 4 (Fl (A++B)).length (AA.row (Fl (A++B))) none]⟩,μ:=λi=>(Fl (A++B)).length-i}
 |_,_=>none
theorem pOver:PS 25 Vg:=by
 refine LV {l:=[(75,b9c),(60,b73),(78,b0v),(61,Yj)],x:=[(76,c1u)],fz:=λd=>Nat.beq d 16||Nat.beq d 74,gr:=λid=>bif Nat.beq id 9 then [.fz 4,.flat 2]else []} ⟨by simpa using⟨g3c,d4s,c6q,b8m⟩,by simpa using g0y,E2⟩ FOver IOver Vg ?_ ?_ Tryz.func25 E1 E1 E1 ?_
 .intro args pre s h K;unfold Vg at h;split at h
  .rename_i x y;split at h
   .rename_i p A q B hx C;cases h;obtain⟨⟨E,F⟩,M⟩:=K;exact⟨(A,B),⟨c7m hx E,c7m C F,Jm⟩,⟨⟨(b53 hx E).2,(b53 C F).2⟩,M⟩,rfl⟩
   .cases h
  .cases h
 .exact Bz
 .rintro⟨A,B⟩ ⟨⟨G,H⟩,I⟩;have N:=I;obtain⟨O,hn,r,P⟩:=N;refine X0a _ ?_;(repeat' first|constructor|intro h)<;>refine Lm ?_
  .refine⟨⟨⟨AA.is_row _,G.1,λs hs=>G.2 s (by rwa[RT.lst_row]at hs)⟩,AA.is_row _,H.1,λs hs=>H.2 s (by rwa[RT.lst_row]at hs)⟩,?_⟩;rw[RT.lst_row,RT.lst_row,<-K8];exact O
  simp only[RT.lst_row];generalize g:A++B=L at*;refine⟨(0:Nat),Jw _,?_,?_⟩
  .refine X0b _ ?_;(repeat' first|constructor|intro h)<;>refine Lm ?_
   all_goals first|rfl|exact Bp|exact A5|(intro q b;exact absurd b (K5 _))|(intro q b;cases b)|skip
  .intro i f;replace f:i<=L.length:=f;have hF:=(UQ (L:=L) i f).1;rcases Nd i L.length with j|ve
   .have hx:L.getD i AA.d∈L:=by rw[Jg,Jh j,L5];exact Kj j
    have b9:(L.getD i AA.d).l.length≠0:=λe=>(r _ hx).2.1 (Lj e);have Q:(L.getD i AA.d).l.length<=100000:=(r _ hx).2.2;cases hf:GI (oF L i) (FQ (L.getD i AA.d).c)with
    |some k=>
     have t:Ud (oF L i) [(L.getD i AA.d).c.x,(L.getD i AA.d).c.y,(L.getD i AA.d).c.q]=true:=by show (GI (oF L i) (FQ (L.getD i AA.d).c)).isSome=true;rw[hf];rfl
     have u:UE (oF L i) [(L.getD i AA.d).c.x,(L.getD i AA.d).c.y,(L.getD i AA.d).c.q]=k:=by show (((GI (oF L i) (FQ (L.getD i AA.d).c)).getD 0:Nat):Int)=k;rw[hf];rfl
     obtain⟨J,R⟩:=UW hf;have T:=c0q R;obtain⟨U,ny⟩:=P i k j hf;all_goals refine X0b _ ?_;(repeat' first|constructor|intro h)<;>refine Lm ?_
     all_goals(try simp only[Ir,t,u]at*)
     all_goals(try first
      |contradiction
      |(exfalso;omega)
      |exact B4
      |(show k<(oF L i).length;exact J)
      |(intro b;cases b)
      |(refine⟨by rw[Ji U],.inr Dz,Dz,?_⟩;exact MQ E1 Dz))
     .refine⟨i+1,Dz,Dz,?_⟩;simp only[Vc j];refine X0b _ ?_;(repeat' first|constructor|intro h)<;>refine Lm ?_
      all_goals first
       |rfl
       |omega
       |(intro q;unfold Ud;rw[d97 hf])
       |(intro q _;unfold UE;rw[d97 hf])
       |(rw[Sa hf,Li])
       |(intro q _;rw[Sa hf];exact ov_set J rfl T)
       |exact A5
       |skip
    |none=>
     have t:Ud (oF L i) [(L.getD i AA.d).c.x,(L.getD i AA.d).c.y,(L.getD i AA.d).c.q]=false:=by show (GI (oF L i) (FQ (L.getD i AA.d).c)).isSome=false;rw[hf];rfl
     have u:UE (oF L i) [(L.getD i AA.d).c.x,(L.getD i AA.d).c.y,(L.getD i AA.d).c.q]=0:=by show (((GI (oF L i) (FQ (L.getD i AA.d).c)).getD 0:Nat):Int)=0;rw[hf];rfl
     all_goals refine X0b _ ?_;(repeat' first|constructor|intro h)<;>refine Lm ?_
     all_goals(try simp only[Ir,t,u]at*)
     all_goals(try first
      |contradiction
      |(exfalso;omega)
      |exact B4
      |exact⟨AC.isL_row _,Q⟩
      |(intro _;kernel_rfl)
      |exact A7)
     .refine⟨i+1,Dz,Dz,?_⟩;simp only[Vc j];refine X0b _ ?_;(repeat' first|constructor|intro h)<;>refine Lm ?_
      all_goals first
       |rfl
       |omega
       |(rw[Sh hf];simp;done)
       |exact f3t hf
       |(intro q _
         show EN (decide (q=FQ (L.getD i AA.d).c)) [SV.int .i64 ((oF L i).length:Nat)] [SV.int .i64 (UE (oF L i) q)]=[SV.int .i64 (UE (Qf (oF L i) (L.getD i AA.d)) q)];unfold UE;rw[c6w hf];by_cases e:q=FQ (L.getD i AA.d).c
         .rw[Ji e,K3 e];rfl
         .rw[Jj e,K4 e];rfl)
       |(simp only[RT.lst_row];intro q b;rw[Sh hf];exact ov_app b)
       |exact A5
       |skip
   .have e:i=L.length:=Dz;subst e;refine X0b _ ?_;(repeat' first|constructor|intro h)<;>refine Lm ?_
    all_goals(try simp only[Ir]at*)
    all_goals(try(exfalso;omega))
    .have m:=UQ (L:=L) L.length (Jp _);rw[f6i];refine⟨ov_isL _,Dz,λs hs=> ?_,oF_key (Jp _)⟩;obtain⟨o,V,rfl⟩:=Jx.1 hs;exact m.2.2.1 o V (λc=>AD .u8 c.q) (λs hs=>(r s hs).1)
    .simp only[g,f6i];have m:=(UQ (L:=L) L.length (Jp _)).1;have W:=@d7x L;have v:=f94 I;have w:FD OP ((oF L L.length).map (·.1))=Fl L:=rfl;rw[w,<-W];generalize z:Fl L=S at*;have n:Fl (A++B)=S:=by rw[g];exact z
     refine⟨(0:Nat),Jw _,?_,?_⟩
     .exact X2d
     .intro i f;replace f:i<=S.length:=f;have hx:i<S.length->(S.getD i AA.d).l.length<=100000:=λh=>v _ Hy;refine X0b _ ?_;(repeat' first|constructor|intro h)<;>refine Lm ?_
      all_goals(try simp only[Ir,RT.lst_row]at*)
      all_goals(try first
       |exact B4
       |(show i<S.length;omega)
       |exact⟨AC.isL_row _,hx Dz⟩
       |exact A5
       |(rw[n];done)
       |(rw[n];exact λ_ _=>.inl rfl))
      refine⟨i+1,Dz,Dz,?_⟩;all_goals refine X0b _ ?_;(repeat' first|constructor|intro h)<;>refine Lm ?_
      all_goals(try simp only[K0,RT.lst_row])
      all_goals first
       |exact As
       |(intro q _;exact g1n)
       |skip
end Go.Proofs.YtlffhjfkaepimaaGreatDoor.V
namespace Go.Proofs
open Go Go.Shelf Go.RowKit Go.Lib Go.Sort
structure CmpLay (P:Program) (ρ:Ren):Prop where
 mixed:P.follows .mixedOrders=true
 f43:Bears P (ρ.f 43) (SlBodyN.n43 ρ)
 t0:P.underlying (ρ.t 0)=some (TypeDesc.tuple #[])
 a0:∀w,(isAgg (ρ.t 0)).run P w=.ok false w
 z0:∀w,(Go.sizeOf (ρ.t 0)).run P w=.ok 1 w
 v0:∀w,(zeroValue (ρ.t 0)).run P w=.ok (Value.tuple #[]) w
 t3:P.underlying (ρ.t 3)=some (TypeDesc.int IntKind.i64)
 a3:∀w,(isAgg (ρ.t 3)).run P w=.ok false w
 z3:∀w,(Go.sizeOf (ρ.t 3)).run P w=.ok 1 w
 v3:∀w,(zeroValue (ρ.t 3)).run P w=.ok (Value.int IntKind.i64 0) w
 t4:P.underlying (ρ.t 4)=some (TypeDesc.bool)
 a4:∀w,(isAgg (ρ.t 4)).run P w=.ok false w
 z4:∀w,(Go.sizeOf (ρ.t 4)).run P w=.ok 1 w
 v4:∀w,(zeroValue (ρ.t 4)).run P w=.ok (Value.bool false) w
 t22:P.underlying (ρ.t 22)=some (TypeDesc.slice (ρ.t 23))
 a22:∀w,(isAgg (ρ.t 22)).run P w=.ok false w
 z22:∀w,(Go.sizeOf (ρ.t 22)).run P w=.ok 1 w
 v22:∀w,(zeroValue (ρ.t 22)).run P w=.ok (Value.slice none 0 0) w
variable{P:Program}{ρ:Ren}{α:Type} [Inhabited α] [DecidableEq α]
theorem d2d(w:World)(t e ty:TypeId)(z:Value)(k:P.underlying t=some (.slice e))(l:∀w,(zeroValue e).run P w=.ok z w)(p:∀v∈z.cells.toList,v.oneCell'=true)(b o n c:Nat)(hn:0<n)
 (q:∀j,j<z.cells.size*n->(w.cell? ⟨b,o+j,none⟩).isSome=true) (r:∀j,j<z.cells.size*n->w.frozen? ⟨b,o+j,none⟩=false):
 (Builtin.clear_ #[t] ty #[.slice (some ⟨b,o,none⟩) n c]).run P w=.ok (.tuple #[]) (w.setCells b o (Builtin.zeroCells z.cells n).toList)/\(Builtin.zeroCells z.cells n).toList.length=z.cells.size*n/\∀v∈(Builtin.zeroCells z.cells n).toList,v.oneCell'=true:=by
 have a:(Builtin.zeroCells z.cells n).toList.length=z.cells.size*n:=by simp[Builtin.zeroCells,Nat.mul_comm]
 have d:∀v∈(Builtin.zeroCells z.cells n).toList,v.oneCell'=true:=by
  intro v f;simp only[Builtin.zeroCells,Array.toList_map,List.mem_map]at f;obtain⟨i,s,rfl⟩:=f;have hs:0<z.cells.size:=by
   rcases Nat.eq_zero_or_pos z.cells.size with h|h
   .simp[h]at s
   .exact h
  rw[getElem!_pos z.cells _ (Nat.mod_lt _ hs)];exact p _ (Array.getElem_mem_toList _)
 refine⟨?_,a,d⟩;have g:=run_storeCells_cells (P:=P) b o (Builtin.zeroCells z.cells n).toList 0 w (by rw[a];simpa using q) (by rw[a];simpa using r) d;simp only[Nat.add_zero]at g;obtain⟨m,rfl⟩:∃m,n=m+1:=⟨n-1,by omega⟩
 simp[Builtin.clear_,run_underlying k,l,g]
omit [DecidableEq α]in
theorem c69(enc:α->List Value)(k:Nat)(n9:0<k)(hk:∀x,(enc x).length=k)(d:Array α)(i:Nat)(hi:i<d.size)(u:α):setMany (flatK enc k d) (i*k) (enc u)=flatK enc k (d.setIfInBounds i u):=by
 have hb:i*k+k<=d.size*k:=by have:=Nat.mul_le_mul_right k (show i+1<=d.size from hi);rwa[Nat.add_mul,Nat.one_mul]at this
 refine ext_get! (by simp) (λt ht=> ?_);rw[size_setMany,size_flatK]at ht;rw[get_setMany _ _ _ _ (by rw[size_flatK];exact ht),get_flatK enc k (d.setIfInBounds i u) t (by simpa using ht),hk];have hq:=blk_iff k i t n9;by_cases h:i*k<=t/\t<i*k+k
 .have e:=hq.1 h;rw[if_pos h,e,getElem!_set_same d i u hi];have:t%k=t-i*k:=by rw[<-e];have:=Nat.div_add_mod t k;rw[Nat.mul_comm]at this;omega
  rw[this]
 .have e:t/k≠i:=λe=>h (hq.2 e);rw[if_neg h,get_flatK _ _ _ _ ht,getElem!_set_other d i (t/k) u e]
omit [DecidableEq α]in
theorem f3u(enc:α->List Value)(k:Nat)(n9:0<k)(hk:∀x,(enc x).length=k)(w:World)(q blk off:Nat)(d:Array α)(i:Nat)(hi:i<d.size)(u:α):
 (putRowK enc k (Sort.ahead w q) blk off d).drew.setCells blk (off+i*k) (enc u)=putRowK enc k (Sort.ahead w (q+1)) blk off (d.setIfInBounds i u):=by
 have hb:i*k+k<=d.size*k:=by have:=Nat.mul_le_mul_right k (show i+1<=d.size from hi);rwa[Nat.add_mul,Nat.one_mul]at this
 show (putRow id (Sort.ahead w (q+1)) blk off (flatK enc k d)).setCells blk (off+i*k) (enc u)=_;rw[setCells_putRow _ _ _ _ _ _ (by rw[hk,size_flatK];exact hb),c69 enc k n9 hk d i hi u];rfl
theorem f2w(L:CmpLay P ρ)(k:Nat)(n9:0<k)(aE:∀w,(isAgg (ρ.t 23)).run P w=.ok true w)(zE:∀w,(Go.sizeOf (ρ.t 23)).run P w=.ok k w)(enc:α->List Value)(U:∀x,(enc x).length=k)(h1:∀x,∀v∈enc x,v.oneCell'=true)
 (j7:EqlAt P (ρ.t 23) (λx=>.agg (enc x).toArray) (λx y=>decide (x=y))) (b9:NeqAt P (ρ.t 23) (λx=>.agg (enc x).toArray) (λx y=>decide (x=y)))
 (z:Value) (hz:∀w,(zeroValue (ρ.t 23)).run P w=.ok z w) (U5:z.cells.size=k) (w3:∀v∈z.cells.toList,v.oneCell'=true)
 (h off H:Nat) (d:Array α) (w:World) (I:HoldsK enc k w h off d) (bq:d.size<=1000000) (fk:d.size<=H):
 Calls P (ρ.f 43) #[.slice (some ⟨h,off,none⟩) d.size H] w λe w'=>e=.returned (.slice (some ⟨h,off,none⟩) (compactUpTo d d.size).length H)/\
  ∃q n E,w'=putRow id (Sort.ahead w q) h off (setMany (flatK enc k n) ((compactUpTo d d.size).length*k) E)/\n.size=d.size/\(compactUpTo d d.size).length<=d.size/\(compactUpTo d d.size).length*k+E.length<=d.size*k/\(∀v∈E,v.oneCell'=true)/\
   ∀j,j<(compactUpTo d d.size).length->(compactUpTo d d.size)[j]?=some n[j]!:=by
 have mixed:=L.mixed;have t0:=L.t0;have a0:=L.a0;have z0:=L.z0;have v0:=L.v0;have t3:=L.t3;have a3:=L.a3;have z3:=L.z3;have v3:=L.v3;have t4:=L.t4;have a4:=L.a4;have z4:=L.z4;have v4:=L.v4;have t22:=L.t22;have a22:=L.a22;have z22:=L.z22;have v22:=L.v22;have Z9:∀(x y:α) (w:World),Sem.run P (binOp .eql (ρ.t 23) (.agg (enc x).toArray) (.agg (enc y).toArray)) w=.ok (.bool (decide (x=y))) w:=j7.1;have ru:∀(x y:α) (w:World),Sem.run P (binOp .neq (ρ.t 23) (.agg (enc x).toArray) (.agg (enc y).toArray)) w=.ok (.bool (!decide (x=y))) w:=b9.1;have Q2:∀(op:BinOp) (a b:Operand) (x y:α) (w:World),Sem.run P (eqGuard op (ρ.t 23) a b (.agg (enc x).toArray) (.agg (enc y).toArray)) w=.ok () w:=b9.2;have J:∀q,(∀j,j<d.size->keeps d j=true)->(compactUpTo d d.size).length=d.size/\∃n E,w.drewN q=putRow id (Sort.ahead w q) h off (setMany (flatK enc k n) ((compactUpTo d d.size).length*k) E)/\n.size=d.size/\(compactUpTo d d.size).length<=d.size/\(compactUpTo d d.size).length*k+E.length<=d.size*k/\(∀v∈E,v.oneCell'=true)/\
  ∀j,j<(compactUpTo d d.size).length->(compactUpTo d d.size)[j]?=some n[j]!:=by
  intro q bw;have e:compactUpTo d d.size=d.toList:=by rw[compactUpTo_all d _ bw,range_map_get]
  rw[e];refine⟨by simp,d,[],?_,rfl,by simp,by simp,by simp,λj s=> ?_⟩
  .simp only[setMany];exact(putRowK_self enc k (Sort.ahead w q) h off d (holdsK_ahead enc k w q h off d I)).symm
  .have bi:j<d.size:=by simpa using s
   rw[Array.getElem?_toList,Array.getElem?_eq_getElem bi,getElem!_pos d j bi]
 have HS:Aside (∀q,(∀j,j<d.size->keeps d j=true)->(compactUpTo d d.size).length=d.size/\∃n E,w.drewN q=putRow id (Sort.ahead w q) h off (setMany (flatK enc k n) ((compactUpTo d d.size).length*k) E)/\n.size=d.size/\(compactUpTo d d.size).length<=d.size/\(compactUpTo d d.size).length*k+E.length<=d.size*k/\(∀v∈E,v.oneCell'=true)/\
  ∀j,j<(compactUpTo d d.size).length->(compactUpTo d d.size)[j]?=some n[j]!):=J
 clear J;have bnd:∀x,x<d.size->x*k+k<=d.size*k:=λx hx=>by have:=Nat.mul_le_mul_right k (show x+1<=d.size from hx);rwa[Nat.add_mul,Nat.one_mul]at this
 by_cases h2:d.size<2
 .have HH:Aside (HoldsK enc k w h off d):=I;clear I;obtain⟨_,_,FG⟩:=L.f43
  go_enter FG,SlBodyN.n43_ntmps ρ
  go_wp2
  go_ret
  obtain⟨e1,e2⟩:=HS.out 0 (λj s=>keeps_lt_one d j (by omega));exact⟨by rw[e1];rfl,0,e2⟩
 .obtain⟨_,_,FG⟩:=L.f43
  go_enter FG,SlBodyN.n43_ntmps ρ
  go_wp2
  go_loopg [3] d.size (λg s3 wr=>∃l q:Nat,1<=l/\l<=d.size/\d.size-l<=g/\s3=.int .i64 l/\wr=w.drewN q/\∀j,j<l->keeps d j=true)
  case atStart=>exact⟨1,0,Nat.le_refl _,by omega,by omega,rfl,rfl,keeps_lt_one d⟩
  case round=>
   obtain⟨l,q,jb,rn,hg,rfl,F,bw⟩:=hrel;by_cases b6:l<d.size
   .have O:HoldsK enc k wr.drew h off d:=by rw[F];exact holdsK_ahead enc k w (q+1) h off d I
    have W1:Aside (wr=w.drewN q):=F;clear F;have Q:Sem.run P (loadCellsFrom ⟨h,off+l*k,none⟩ 0 k #[]) wr.drew=.ok (enc d[l]!).toArray wr.drew:=run_loadCellsFrom_list P _ _ _ k (U _) (HoldsK.cells O U b6);have K:Sem.run P (loadCellsFrom ⟨h,off+(l-1)*k,none⟩ 0 k #[]) wr.drew=.ok (enc d[l-1]!).toArray wr.drew:=run_loadCellsFrom_list P _ _ _ k (U _) (HoldsK.cells O U (by omega));obtain⟨m,hm⟩:∃m,l-1=m:=⟨_,rfl⟩
    rw[hm]at K;have A:Aside (∀j,j<l->keeps d j=true):=bw;have HH:Aside (HoldsK enc k w h off d):=I;have BB:Aside (∀x,x<d.size->x*k+k<=d.size*k):=bnd;have p:Hid (∀x,(enc x).length=k):=U;have H11:Hid (∀x,∀v∈enc x,v.oneCell'=true):=h1;clear bw I O bnd U h1;obtain⟨x,hx⟩:∃x,d[l]! =x:=⟨_,rfl⟩
    obtain⟨y,hy⟩:∃y,d[m]! =y:=⟨_,rfl⟩
    have B:Aside (d[l]! =x/\d[l-1]! =y):=⟨hx,by rw[hm];exact hy⟩
    rw[hx]at Q;rw[hy]at K;obtain⟨ci,V⟩:∃c,c=enc x:=⟨_,rfl⟩
    obtain⟨cj,W⟩:∃c,c=enc y:=⟨_,rfl⟩
    have R:ci.length=k:=by rw[V];exact p.out _
    have hsJ:cj.length=k:=by rw[W];exact p.out _
    have X:∀w,Sem.run P (binOp .eql (ρ.t 23) (.agg ci.toArray) (.agg cj.toArray)) w=.ok (.bool (decide (x=y))) w:=by rw[V,W];exact Z9 x y
    have he2:∀a b w,Sem.run P (eqGuard .eql (ρ.t 23) a b (.agg ci.toArray) (.agg cj.toArray)) w=.ok () w:=by rw[V,W];exact λa b w=>Q2 _ a b x y w
    rw[<-V]at Q;rw[<-W]at K;have CI:Hid (ci=enc x/\cj=enc y):=⟨V,W⟩
    have HE:Hid (∀(x y:α) (w:World),Sem.run P (binOp .neq (ρ.t 23) (.agg (enc x).toArray) (.agg (enc y).toArray)) w=.ok (.bool (!decide (x=y))) w):=ru;have HG:Hid (∀(op:BinOp) (a b:Operand) (x y:α) (w:World),Sem.run P (eqGuard op (ρ.t 23) a b (.agg (enc x).toArray) (.agg (enc y).toArray)) w=.ok () w):=Q2;clear V W hx hy Z9 ru Q2 j7 b9;by_cases Y:x=y
    .have HD:Aside (x=y):=Y;rw[decide_eq_true Y]at X;clear Y
     go_wp2_with fail
     go_big_region_o
     all_goals go_wp2
     clear Q K X he2 R hsJ
     go_loopg [3,5] d.size (λg s3 s5 wr2=>∃(o k2 G:Nat) (n:Array α),s3=.int .i64 o/\s5=.int .i64 k2/\1<=k2/\l+k2<=d.size/\d.size-(l+k2)<=g/\wr2=putRowK enc k (Sort.ahead w G) h off n/\CompInv d (l+k2) o n)
     case atStart=>exact⟨l,1,q+1,d,rfl,rfl,Nat.le_refl _,by omega,by omega,by rw[W1.out];exact(putRowK_self enc k (Sort.ahead w (q+1)) h off d (holdsK_ahead enc k w (q+1) h off d HH.out)).symm,CompInv.start A.out (keeps_neg (by omega) (by rw[B.out.1,B.out.2,HD.out]))⟩
     case round=>
      obtain⟨o,k2,G,n,rfl,rfl,fe,bj,hg2,F,r⟩:=hrel;have pz:=r.lt;have qc:=r.size;by_cases rt:l+k2<d.size
      .have M:HoldsK enc k wr.drew h off n:=by rw[F];exact holdsK_putRowK enc k _ h off d n (holdsK_ahead enc k w (G+1) h off d HH.out) qc
       obtain⟨N,vp⟩:∃N,k2-1=N:=⟨_,rfl⟩
       have Q:Sem.run P (loadCellsFrom ⟨h,off+l*k+k2*k,none⟩ 0 k #[]) wr.drew=.ok (enc n[l+k2]!).toArray wr.drew:=by have:=run_loadCellsFrom_list P _ _ _ k (p.out _) (HoldsK.cells M p.out (i:=l+k2) (by omega));rwa[Nat.add_mul,<-Nat.add_assoc]at this
       have K:Sem.run P (loadCellsFrom ⟨h,off+l*k+N*k,none⟩ 0 k #[]) wr.drew=.ok (enc n[l+N]!).toArray wr.drew:=by have:=run_loadCellsFrom_list P _ _ _ k (p.out _) (HoldsK.cells M p.out (i:=l+N) (by omega));rwa[Nat.add_mul,<-Nat.add_assoc]at this
       rw[r.high (l+k2) (by omega)]at Q;rw[r.high (l+N) (by omega)]at K;obtain⟨u,hu⟩:∃x,d[l+k2]! =x:=⟨_,rfl⟩
       obtain⟨v,hv⟩:∃y,d[l+N]! =y:=⟨_,rfl⟩
       rw[hu]at Q;rw[hv]at K;have C:Aside (d[l+k2]! =u/\d[l+k2-1]! =v):=⟨hu,by rw[show l+k2-1=l+N by omega];exact hv⟩
       obtain⟨cu,S⟩:∃c,c=enc u:=⟨_,rfl⟩
       obtain⟨cv,tj⟩:∃c,c=enc v:=⟨_,rfl⟩
       have R:cu.length=k:=by rw[S];exact p.out _
       have hsJ:cv.length=k:=by rw[tj];exact p.out _
       have X:∀w,Sem.run P (binOp .neq (ρ.t 23) (.agg cu.toArray) (.agg cv.toArray)) w=.ok (.bool (!decide (u=v))) w:=by rw[S,tj];exact HE.out u v
       have he2:∀a b w,Sem.run P (eqGuard .neq (ρ.t 23) a b (.agg cu.toArray) (.agg cv.toArray)) w=.ok () w:=by rw[S,tj];exact λa b w=>HG.out _ a b u v w
       have st:Sem.run P (storeCells ⟨h,off+o*k,none⟩ cu 0) wr.drew=.ok () (wr.drew.setCells h (off+o*k) cu):=stores_of_holds P M (o*k) _ (by rw[R,size_flatK,qc];exact BB.out o (by omega)) (by rw[S];exact H11.out u);rw[<-S]at Q;rw[<-tj]at K;have CU:Hid (cu=enc u):=S;have W2:Aside (wr=putRowK enc k (Sort.ahead w G) h off n):=F;have I2:Aside (CompInv d (l+k2) o n):=r;clear S tj hu hv F r M;by_cases S5:u=v
       .have T:Aside (u=v):=S5;rw[decide_eq_true S5]at X;clear S5 st
        go_wp2_with fail
        go_big_region_o
        all_goals go_wp2
        go_roundg (d.size-(l+(k2+1)))
        case measure=>omega
        case rel=>exact⟨o,k2+1,G+1,n,rfl,by go_num,by omega,by omega,Nat.le_refl _,by rw[W2.out];rfl,I2.out.skip (keeps_neg (by omega) (by rw[C.out.1,C.out.2,T.out]))⟩
       .have T:Aside (¬u=v):=S5;rw[decide_eq_false S5]at X;clear S5
        go_wp2_with fail
        go_big_region_o
        all_goals go_wp2
        go_roundg (d.size-(l+(k2+1)))
        case measure=>omega
        case rel=>
         refine⟨o+1,k2+1,G+1,n.setIfInBounds o u,by go_num,by go_num,by omega,by omega,Nat.le_refl _,?_,?_⟩
         .rw[CU.out,W2.out];exact f3u enc k n9 p.out w G h off n o (by omega) u
         .have:=I2.out.keep rt (keeps_pos (by rw[C.out.1,C.out.2];exact T.out));rwa[C.out.1]at this
      .have hend:l+k2=d.size:=by omega
       have M:HoldsK enc k wr h off n:=by rw[F];exact holdsK_putRowK enc k _ h off d n (holdsK_ahead enc k w G h off d HH.out) qc
       have cw:∀j,j<z.cells.size*(d.size-o)->o*k+j<(flatK enc k n).size:=λj s=>by rw[size_flatK,qc];rw[U5,Nat.mul_sub,Nat.mul_comm k,Nat.mul_comm k]at s;have:=BB.out o (by omega);omega
       have dt:=λty=>d2d (P:=P) wr (ρ.t 22) (ρ.t 23) ty z t22 hz w3 h (off+o*k) (d.size-o) (H-o) (by omega)
        (λj s=>by rw[Nat.add_assoc,(M (o*k+j) (cw j s)).1];rfl) (λj s=>by rw[Nat.add_assoc];exact(M (o*k+j) (cw j s)).2)
       obtain⟨zs,m9⟩:∃zs,(Builtin.zeroCells z.cells (d.size-o)).toList=zs:=⟨_,rfl⟩
       rw[m9]at dt;have S2:=(dt 0).2;have hcl':∀ty,_:=λty=>(dt ty).1;have Z:Aside (zs.length=z.cells.size*(d.size-o)/\∀v∈zs,v.oneCell'=true):=S2;have W2:Aside (wr=putRowK enc k (Sort.ahead w G) h off n):=F;have I2:Aside (CompInv d (l+k2) o n):=r;clear dt S2 M r F cw m9
       go_wp2
       go_ret
       have r:=I2.out;rw[hend]at r;have rz:=Z.out.1;have hb:=BB.out o (by omega);rw[U5,Nat.mul_sub,Nat.mul_comm k,Nat.mul_comm k]at rz;refine⟨by rw[r.len];rfl,G,n,zs,?_,qc,by rw[r.len];omega,by rw[r.len];omega,Z.out.2,λj s=>r.low j (by rw[r.len]at s;exact s)⟩;rw[r.len,W2.out];exact setCells_putRow _ _ _ zs (o*k) (flatK enc k n) (by rw[size_flatK,qc];omega)
    .have HD:Aside (¬x=y):=Y;rw[decide_eq_false Y]at X;clear Y
     go_wp2_with fail
     go_big_region_o
     all_goals go_wp2
     go_roundg (d.size-(l+1))
     case measure=>omega
     case rel=>
      refine⟨l+1,q+1,by omega,by omega,Nat.le_refl _,by go_num,by rw[W1.out];rfl,λj s=> ?_⟩;by_cases e:j=l
      .subst e;exact keeps_pos (by rw[B.out.1,B.out.2];exact HD.out)
      .exact A.out j (by omega)
   .have:l=d.size:=by omega
    subst this;subst F;have HH:Aside (HoldsK enc k w h off d):=I;clear I
    go_wp2
    go_ret
    obtain⟨e1,e2⟩:=HS.out q bw;exact⟨by rw[e1];rfl,q,e2⟩
theorem b7s(L:CmpLay P ρ)(a:Option Addr)(b:Nat)(w:World):
 Calls P (ρ.f 43) #[.slice a 0 b] w λe c=>e=.returned (.slice a 0 b)/\c=w:=by
 have mixed:=L.mixed;have t0:=L.t0;have a0:=L.a0;have z0:=L.z0;have v0:=L.v0;have t3:=L.t3;have a3:=L.a3;have z3:=L.z3;have v3:=L.v3;have t4:=L.t4;have a4:=L.a4;have z4:=L.z4;have v4:=L.v4;have t22:=L.t22;have a22:=L.a22;have z22:=L.z22;have v22:=L.v22;obtain⟨_,_,d⟩:=L.f43
 go_enter d,SlBodyN.n43_ntmps ρ
 go_wp2
 go_ret
 exact⟨rfl,rfl⟩
end Go.Proofs
namespace Go.Proofs.YtlffhjfkaepimaaGreatDoor.V
open Go
section
open Go.Sort Go.Proofs Go.Shelf Go.Lib
def ML{β:Type}[DecidableEq β](p:β):List β->List β
 | []=>[]
 |x::r=>if x=p then ML p r else x::ML x r
def GX{β:Type}[DecidableEq β]:List β->List β
 | []=>[]
 |x::r=>x::ML x r
section
variable{β:Type} [DecidableEq β]
theorem b3x:∀(p:β) (l:List β) (x:β),ML p (l++[x])=ML p l++if x=l.getLast?.getD p then []else [x]
 |p,[],x=>by simp only[Nk,ML];rfl
 |p,y::r,x=>by
  have g:(y::r).getLast?.getD p=r.getLast?.getD y:=by cases r with
   |nil=>rfl
   |cons z q=>simp[List.getLast?_eq_some_getLast]
  simp only[Lx,ML,g];by_cases e:y=p
  .subst e;rw[Ji rfl,Ji rfl];exact b3x y r x
  .rw[Jj e,Jj e,b3x y r x,Lx]
theorem b6p:∀(p:β) (l:List β),(ML p l).length<=l.length/\∀x∈ML p l,x∈l
 |p,[]=>by simp[ML]
 |p,y::r=>by
  simp only[ML];split
  .have:=b6p p r;exact⟨by simp only[Kz];omega,λx hx=>Kd _ (this.2 x hx)⟩
  .have:=b6p y r;refine⟨by simp only[Kz];omega,λx hx=> ?_⟩;rcases Jv.1 hx with rfl|hx
   .exact Mb ..
   .exact Kd _ (this.2 x hx)
theorem c7v:∀(l:List β),(GX l).length<=l.length/\∀x∈GX l,x∈l
 | []=>by simp[GX]
 |y::r=>by
  have:=b6p y r;refine⟨by simp only[GX,Kz];omega,λx hx=> ?_⟩;rcases Jv.1 hx with rfl|hx
  .exact Mb ..
  .exact Kd _ (this.2 x hx)
theorem c7g[Inhabited β](d:Array β):∀m,m<=d.size->compactUpTo d m=GX (d.toList.take m)
 |0,_=>by simp[compactUpTo,GX]
 |m+1,h=>by
  have c:m<d.size:=Dz;have j:d[m]! =d.toList[m]'(by simpa using c):=by rw[L6 d m c];rfl
  have k:d.toList.take (m+1)=d.toList.take m++[d[m]!]:=by rw[Lz,Jh (by simpa using c),j];rfl
  rw[compactUpTo_succ,c7g d m Dz,k];cases m with
  |zero=>simp[GX,ML,keeps]
  |succ m=>
   have g:m<d.size:=Dz;have i:d.toList.take (m+1)=d.toList.take m++[d[m]!]:=by rw[Lz,Jh (by simpa using g),L6 d m g];rfl
   have l:d.toList.take (m+1)≠[]:=by rw[i];simp
   have f:(d.toList.take (m+1)).getLast?=some d[m]!:=by rw[i];simp
   generalize d.toList.take (m+1)=q at*;cases q with
   |nil=>exact absurd rfl l
   |cons a r=>
    have n:r.getLast?.getD a=d[m]!:=by
     cases r with
     |nil=>simpa using f
     |cons b s=>simp[List.getLast?_cons_cons]at f;rw[f];rfl
    simp only[GX,Lx,b3x,n];congr 1;congr 1;by_cases e:d[m+1]! =d[m]!
    .rw[keeps_neg Dz Ey,Ji e];rfl
    .rw[keeps_pos Ey,Jj e];rfl
end
theorem d1w{w:World}{b o q:Nat}{F:Array Value}{i:Nat}(a:i≠b):(Sort.putRow id (Sort.ahead w q) b o F).heap[i]?=w.heap[i]?:=by show (w.heap.modify b _)[i]?=_;rw[M8,Jj (Ne.symm a)]
theorem d34{w:World}{b o q:Nat}{F:Array Value}{c:Array Value}{T:TypeId}{z:Nat×Nat}(h:w.heap[b]?=some (.cells c T z)):(Sort.putRow id (Sort.ahead w q) b o F).heap[b]?=some (.cells (putCells id o F c) T z):=by show (w.heap.modify b _)[b]?=_;rw[M8,Ji rfl,h];rfl
theorem compH{β:Type}[DecidableEq β](R:RT β){ρ:Ren}{fs:FuncId}(L:CmpLay Tryz.prog ρ)(m8:ρ.f 43=fs)(hU:∃fn,Tryz.prog.funcs[fs]?=some fn/\(fn.name== "runtime.NumGoroutine")=false/\fn.body.isNone=false)(bq:0<R.sz)
 (aE:∀w,(isAgg (ρ.t 23)).run Tryz.prog w=.ok true w) (zE:∀w,(Go.sizeOf (ρ.t 23)).run Tryz.prog w=.ok R.sz w) (hL:∀x,(R.sv x).length=R.sz) (hI:∀x,∀s∈R.sv x,∃k n,s=.int k n)
 (j7:EqlAt Tryz.prog (ρ.t 23) (λx=>.agg ((R.sv x).map MK).toArray) (λx y=>decide (x=y))) (b9:NeqAt Tryz.prog (ρ.t 23) (λx=>.agg ((R.sv x).map MK).toArray) (λx y=>decide (x=y)))
 (z:Value) (hz:∀w,(zeroValue (ρ.t 23)).run Tryz.prog w=.ok z w) (U5:z.cells.size=R.sz) (w3:∀v∈z.cells.toList,v.oneCell'=true) (h:HK)
 (hh:∀args own r,h args own=some r->∃T n f c,args=[.osl 0]/\own=[.row T R.sz n f c]/\(r.pre->R.is n f/\n<=100000)/\r.res=.osl 0/\r.own=[.row T R.sz (GX (R.lst n f)).length (R.row (GX (R.lst n f))) none]/\r.chg=[0]):HS fs h:=by
 refine⟨hU,?_⟩;intro A w args vals own μ r hA cd hO d8 hD hr hp;obtain⟨T,n,f,c,rfl,rfl,dc,h1,h2,h3⟩:=hh _ _ _ hr;obtain⟨md,hn⟩:=dc hp;rw[h1,h2,h3];obtain⟨v,rfl⟩:∃v,vals=[v]:=by
  have:=hD.1;match vals,this with
  | [v],_=>exact⟨v,rfl⟩
 have hv:=hD.2 0 _ v rfl rfl;cases hv with
 |osl hμ=>
 obtain⟨bl,e0,hb⟩:=hO.blk 0 _ hμ;cases e0;obtain⟨a,m,e1,fx,j9,fk,hl,bc⟩:=hb;cases e1;rename_i m a;have c7:∀k,1<=k->μ k=none:=λk hk=>d8 k hk;have bb:(R.lst n f).length=n:=RT.lst_length R n f;have build:∀(w':World) (nn:Nat),nn=(GX (R.lst n f)).length->nn<=m->(∀i,i<w.heap.size->¬Oo μ i->w'.heap[i]?=w.heap[i]?)->Fr w.heap.size (Oo μ) w w'->
  (m=0\/∃b o vs,0<m/\a=some ⟨b,o,none⟩/\w'.heap[b]?=some (.cells (List.toArray vs) T (0,0))/\o+m*R.sz<=vs.length/\(∀v∈vs,v.oneCell'=true)/\
    ∀(i j:Nat) (s:SV) (v:Value),i<nn->(R.row (GX (R.lst n f)) i)[j]?=some s->vs[o+i*R.sz+j]?=some v->∀H μ,D w' H μ s v)->
  ∃v μ',Ending.returned (.slice a nn m)=.returned v/\Own w.heap.size (Oo μ) A w' μ' [.row T R.sz (GX (R.lst n f)).length (R.row (GX (R.lst n f))) none]/\(∀k,1<=k->μ' k=none)/\D w' (held A μ') μ' (.osl 0) v/\
   (∀k x,k<1->[0].contains k=false->μ k=some x->μ' k=some x)/\Fr w.heap.size (Oo μ) w w':=by
  intro w' nn hnn bj df bn dg;subst hnn;refine⟨_,μ.set 0 (.slice a (GX (R.lst n f)).length m),rfl,⟨λk x hx=> ?_,λk k' x x' b hk dh hx cx=> ?_,λk x b hk hx=> ?_,λb hb=>Kf (hO.bnd b hb) bn.size⟩,λk hk=> ?_,.osl Eh,λk x hk hc _=> ?_,bn⟩
  .unfold Mu.set at hx;split at hx
   .rename_i e;subst e;cases hx;refine⟨_,rfl,a,m,rfl,bj,j9,.inl rfl,λi hi=>⟨hL _,?_⟩,?_⟩
    .rw[Jr];intro s hs;obtain⟨k,q,rfl⟩:=hI _ s hs;rfl
    .rcases dg with h|⟨b,o,vs,q1,q2,q3,q4,q5,q6⟩
     .exact .inl h
     .exact .inr ⟨b,o,vs,q1,q2,q3,q4,q5,λi j s v hi hs hv=>q6 i j s v hi hs hv _ _⟩
   .rename_i e;rw[c7 k Dz]at hx;cases hx
  .have z:∀k x,Mu.set μ 0 (.slice a (GX (R.lst n f)).length m) k=some x->k=0:=λk x h=>by
    unfold Mu.set at h;split at h
    .assumption
    .rename_i e;rw[c7 k Dz]at h;cases h
   rw[z k x hk,z k' x' dh]
  .unfold Mu.set at hk;split at hk
   .cases hk;have cx:CS (.slice a n m) b:=by
     rw[SX]at hx⊢;cases m with
     |zero=>rw[WD]at hx;cases hx
     |succ m=>
      cases a with
      |none=>cases hx
      |some a=>exact hx
    obtain⟨r1,r2,_⟩:=hO.rng 0 _ b hμ cx;exact⟨Kf r1 bn.size,r2,.inr ⟨0,_,hμ,cx⟩⟩
   .rename_i e;rw[c7 k Dz]at hk;cases hk
  .unfold Mu.set;rw[Jj Dz,c7 k hk]
  .have:k=0:=Dz;subst this;simp at hc
 rcases Kt n with h0|h0
 .subst h0;have dv:=b7s L a m w;rw[m8]at dv;refine dv.mono ?_;rintro e w' ⟨rfl,rfl⟩;refine build w' 0 rfl (Jw _) (λ_ _ _=>rfl) (Fr.refl _ _ _) ?_;rcases bc with h|⟨b,o,vs,c9,rfl,hh,ho,h1,hd⟩
  .exact .inl h
  .exact .inr ⟨b,o,vs,c9,rfl,hh,ho,h1,λi j s v hi=>absurd hi (K5 _)⟩
 .rcases bc with h|⟨b,o,vs,c9,rfl,hh,ho,h1,hd⟩
  .omega
  haveI:Inhabited β:=⟨R.d⟩
  let d:Array β:=(R.lst n f).toArray
  have qc:d.size=n:=by simp only[d,List.size_toArray];exact bb
  have P6:∀i,i<n->d[i]! =R.of (f i):=λi hi=>by rw[L6 d i Dz];simp[d,RT.lst]
  have bg:∀i j,i<n->j<R.sz->o+i*R.sz+j<vs.length:=λi j hi hj=>by have:=LO hi hj;have:n*R.sz<=m*R.sz:=Kr _ fx;omega
  have hk:∀x,((R.sv x).map MK).length=R.sz:=λx=>by simp[hL]
  have w7:∀x,∀v∈(R.sv x).map MK,v.oneCell'=true:=λx v hv=>by obtain⟨s,hs,rfl⟩:=Jx.1 hv;obtain⟨k,q,rfl⟩:=hI _ s hs;rfl
  have cw:∀i j,i<n->j<R.sz->vs[o+i*R.sz+j]?=some (((R.sv d[i]!).map MK)[j]!):=by
   intro i j hi hj;have b6:=bg i j hi hj;have bi:j<(R.sv (R.of (f i))).length:=by rw[hL];exact hj
   have hs:(R.sv (R.of (f i)))[j]?=some (R.sv (R.of (f i)))[j]:=Jh bi;have R8:=hd i j _ _ hi (by rw[md i hi];exact hs) (Jh b6);have:=sv_V hI hs R8;rw[Jh b6,P6 i hi,L6 _ j F9];rw[Jh F9]at this;exact this.symm
  have hH:HoldsK (λx=>(R.sv x).map MK) R.sz w b o d:=by
   intro t ht;have P7:t<n*R.sz:=by simpa[qc]using ht
   have t1:t/R.sz<n:=Nat.div_lt_of_lt_mul Gg;have t2:=Nq t bq;have q:=We (enc:=λx=>(R.sv x).map MK) (k:=R.sz) (d:=d) (i:=t/R.sz) (j:=t%R.sz) Dz t2;have hc:=cw (t/R.sz) (t%R.sz) t1 t2;rw[Lt,Nw]at hc;rw[Nw]at q;rw[q.2];refine⟨?_,?_⟩
   .simp only[World.cell?,hh,Option.isSome_none,J5,List.getElem?_toArray];exact hc
   .simp[World.frozen?,hh]
  have dv:=f2w L R.sz bq aE zE (λx=>(R.sv x).map MK) hk w7 j7 b9 z hz U5 w3 b o m d w hH Dz Dz;rw[m8,qc]at dv;refine dv.mono ?_;rintro e w' ⟨rfl,q,dk,zs,rfl,hdk,bj,rz,S2,dm⟩;have sf:compactUpTo d n=GX (R.lst n f):=by have:=c7g d n Dz;rw[this];simp only[d];rw[Lq (by rw[bb];exact Jp _)]
  rw[sf]at bj rz dm⊢;have hX:Oo μ b:=⟨0,_,hμ,KG c9⟩
  have Za:∀i,¬Oo μ i->(Sort.putRow id (Sort.ahead w q) b o (setMany (flatK (λx=>(R.sv x).map MK) R.sz dk) ((GX (R.lst n f)).length*R.sz) zs)).heap[i]?=w.heap[i]?:=λi hi=>d1w (λe=>hi (e▸hX));refine build _ _ rfl Dz (λi _ hi=>Za i hi) ⟨rfl,rfl,rfl,λ_=>Nat.le_add_right _ _,by simp[Sort.putRow,mapBlock,Sort.ahead],λi _ hi=>Za i hi⟩ (.inr ⟨b,o,(putCells id o (setMany (flatK (λx=>(R.sv x).map MK) R.sz dk) ((GX (R.lst n f)).length*R.sz) zs) vs.toArray).toList,c9,rfl,?_,?_,?_,?_⟩)
  .rw[d34 hh]
  .rw[Ls,b06];simpa using ho
  .intro v hv;refine b4d (λt ht=> ?_) (λv hv=>h1 v G1) (Array.mem_toList_iff.1 hv);rw[size_setMany]at ht;rw[get_setMany _ _ _ _ ht];split
   .rename_i hc;rw[L6 zs _ Dz];exact S2 _ (Kj _)
   .exact c9c hk w7 ht
  .intro i j s v hi hs hv H μ';have hj:j<R.sz:=Gv;have b8:i<n:=Dz;have q1:=We (enc:=λx=>(R.sv x).map MK) (k:=R.sz) (d:=dk) (i:=i) (j:=j) Dz hj;have b6:i*R.sz+j<(GX (R.lst n f)).length*R.sz:=LO hi hj;rw[Lk,Lt,b0s (by rw[size_setMany];exact q1.1) (by simp;have:=bg i j b8 hj;omega),get_setMany _ _ _ _ q1.1,Jj Dz,q1.2]at hv;cases hv;have hg:=dm i hi;have hs':(R.sv dk[i]!)[j]?=some s:=by
    have:(GX (R.lst n f)).getD i R.d=dk[i]!:=by rw[Jg,hg];rfl
    rw[<-this];exact hs
   refine sv_D hI hs' ?_;have bi:j<((R.sv dk[i]!).map MK).length:=by rw[Kh,hL];exact hj
   rw[L6 _ j bi];exact Jh bi
end
end Go.Proofs.YtlffhjfkaepimaaGreatDoor.V
namespace Go.Proofs
open Go Go.Shelf Go.RowKit Go.Lib Go.Sort
shelf_lay_g SlLaysF0.n6 Slsf 6 at Tryz 35 as Tryz.sortLine
shelf_lay_g CmpLay Slgn 43 at Tryz 42 as Tryz.cmpLine
end Go.Proofs
namespace Go.Proofs.YtlffhjfkaepimaaGreatDoor.V
open Go
section
open Go.Sort Go.Proofs Go.Shelf
def BX:RT (Int×Int):=⟨2,λx=>[.int .u8 x.1,.int .i64 x.2],λl=>match l with
 | [.int _ a,.int _ b]=>(a,b)
 |_=>(0,0),(0,0),λ_=>rfl⟩
def XF:AH
 | [.agg [.int .u8 a,.int .i64 b],.agg [.int .u8 c,.int .i64 d]]=>some (True,.int .i64 (JZ [CC a c,CC b d]))
 |_=>none
def FLin1:Fam:=⟨(Int×Int)×Int×Int,λ((a,b),c,d)=>[.agg [.int .u8 a,.int .i64 b],.agg [.int .u8 c,.int .i64 d]],λ_=>True,λ((a,b),c,d)=>.int .i64 (JZ [CC a c,CC b d])⟩
theorem pLin1:PS 36 XF:=by
 refine con [(39,Ro),(38,f22),(37,VD)] (by simpa using⟨Xn,pCmpk,pOrL⟩) FLin1 (λ_ _=>none) XF ?_ ?_ Tryz.func36 E1 E1 E1 ?_
 .intro args pre s h hp;unfold XF at h;split at h
  .rename_i a b c d;cases h;exact⟨((a,b),c,d),⟨Ee,Ee,Jm⟩,Jm,rfl⟩
  .cases h
 .exact Bz
 .rintro⟨⟨a,b⟩,c,d⟩ _;exact X2b
def Jl(x:Int×Int):List Int:=[x.1,x.2]
theorem c26{x y:Int×Int}(h:Jl x=Jl y):x=y:=by cases x;cases y;simp[Jl]at h;simp[h]
def b9z:KI:=λ_ b n g a=>match a with
 | [.clo f []]=>if f=36/\b=2 then some (BX.is n g/\n<=100000,BX.row (FD Jl (BX.lst n g)),false)else none
 |_=>none
theorem g16:ES 35 b9z:=by
 refine f0a BX Tryz.sortLine rfl ⟨_,Tryz.func35,E1,E1⟩ (λw=>Tryz.isAgg27 w) (λw=>Tryz.sizeOf27 w) (λ_=>rfl) (λx s hs=> ?_) XF pLin1 (enters_of Tryz.func36 E1 rfl) b9z ?_
 .simp[BX]at hs;rcases hs with rfl|rfl<;>exact⟨_,_,rfl⟩
 .intro T sz n g rest pre g' r h;unfold b9z at h;split at h;rotate_left
  .cases h
  rename_i f;split at h;rotate_left
  .cases h
  rename_i b;obtain⟨rfl,rfl⟩:=b;cases h;refine⟨rfl,rfl,[],Jl,rfl,λa=>⟨a.1,a.2,λx hx y hy=> ?_,λx _ y _ e=>c26 e,rfl⟩⟩;refine⟨True,?_,Jm⟩;show XF [.agg [.int .u8 x.1,.int .i64 x.2],.agg [.int .u8 y.1,.int .i64 y.2]]=_;simp only[XF,Jl,d7r]
def c6z:HK:=λa own=>match a,own with
 | [.osl 0],[.row T b n f _]=>if b=2 then some ⟨BX.is n f/\n<=100000,.osl 0,[.row T 2 (GX (BX.lst n f)).length (BX.row (GX (BX.lst n f))) none],[0]⟩else none
 |_,_=>none
def Yt(x:Int×Int):List Value:=[.int .u8 x.1,.int .i64 x.2]
theorem eqLn:EqlAt Tryz.prog 27 (λx:Int×Int=>.agg (Yt x).toArray) (λx y=>decide (x=y)):=by
 refine⟨λx y w=> ?_,GuardAt.agg _ E1⟩;have u3:=Tryz.underlying3;have a3:=Tryz.isAgg3;have z3:=Tryz.sizeOf3;have uk:=Tryz.underlying25;have ak:=Tryz.isAgg25;have zk:=Tryz.sizeOf25;have a:Tryz.prog.underlying 27=some (.struct (Tryz.prog.fieldsOf 27)):=E1;have b:Tryz.prog.stoodInHeld 27=false:=E1;simp only[Yt];rw[run_eql_struct,show (10000:Nat)=9999+1 from rfl,run_equalIn_agg w 9999 27 _ _ a b];simp only[Program.fieldsOf,Tryz.underlying27]
 go_simp
 by_cases c:x.fst=y.fst<;>by_cases d:x.snd=y.snd<;>simp[c,d,Prod.ext_iff]
theorem neLn:NeqAt Tryz.prog 27 (λx:Int×Int=>.agg (Yt x).toArray) (λx y=>decide (x=y)):=by
 refine⟨λx y w=> ?_,GuardAt.agg _ E1⟩;have h:=eqLn.1 x y w;rw[run_eql_struct]at h;rw[run_neq_struct];generalize Sem.run Tryz.prog (Op.equalIn 10000 27 (.agg (Yt x).toArray) (.agg (Yt y).toArray)) w=r at h⊢;cases r with
 |ok b w'=>
  simp only[Mw,Result.ok.injEq,Value.bool.injEq]at h⊢;exact⟨by rw[h.1],h.2⟩
 |_=>simp[Result.andThen]at h
theorem pCmpLn:HS 42 c6z:=by
 refine compH BX Tryz.cmpLine rfl ⟨_,Tryz.func42,E1,E1⟩ E4 (λw=>Tryz.isAgg27 w) (λw=>Tryz.sizeOf27 w) (λ_=>rfl) (λx s hs=> ?_) eqLn neLn _ (λw=>Tryz.zeroValue27 w) rfl ?_ c6z ?_
 .simp[BX]at hs;rcases hs with rfl|rfl<;>exact⟨_,_,rfl⟩
 .intro v a;simp[Value.cells]at a;rcases a with rfl|rfl<;>rfl
 .intro args own r h;unfold c6z at h;split at h
  .rename_i T sz n f c;split at h
   .rename_i hs;subst hs;cases h;exact⟨T,n,f,c,rfl,rfl,λb=>b,rfl,rfl,rfl⟩
   .cases h
  .cases h
def b2q:AH
 | [.sl 2 n f _]=>some (n<=100000/\∀i,i<n->(f i).all SV.flat0=true,.sl 2 n f none)
 | [.con (.slice none 0 0)]=>some (True,.sl 2 0 (λ_=>[]) none)
 |_=>none
def d5c:Fam:=⟨Nat×(Nat->List SV),λ(n,f)=>[.sl 2 n f none],λ(n,f)=>n<=100000/\∀i,i<n->(f i).all SV.flat0=true,λ(n,f)=>.sl 2 n f none⟩
theorem d98:PF 41 b2q:=by
 refine conF {} ⟨E2,E2,E2⟩ d5c (λ_ _=>none) b2q ?_ ?_ Tryz.func41 E1 E1 E1 ?_
 .intro args pre s h hp;unfold b2q at h;split at h
  .rename_i n f c;cases h;exact C3
  .cases h;exact Ce
  .cases h
 .exact C0
 .rintro⟨n,f⟩ ⟨hp,dw⟩;refine X0a _ ?_;(repeat' first|constructor|intro h)<;>refine Lm ?_
  all_goals(first
   |exact Ah
   |(intro i hi;simp;done)
   |skip)
end
theorem WS{p:Pt}{r:Mv}{L:List Stk}(h:CL p r L=0):EO p r L=0:=by
 unfold CL at h;split at h
 .exact h
 .rename_i a;exact Np.1 a
def OC(a:List Cl)(i:Int):Cl:=a.getD i.toNat CJ.d
def YG(p:Pt)(a:List Cl)(u:Int×Int):Int:=Qt (OC a u.1).x (OC a u.1).y (OC a u.1).q (OC a (AE p.W p.H u.1 u.2)).x (OC a (AE p.W p.H u.1 u.2)).y (OC a (AE p.W p.H u.1 u.2)).q
def Sw(p:Pt)(a:List Cl)(u:Int×Int):Int:=QE (OC a u.1).x (OC a u.1).y (OC a u.1).q (YG p a u)
def lnV(p:Pt)(a:List Cl)(u:Int×Int):Int×Int:=(keep (Sw p a u) (DH (OC a u.1).q (YG p a u)),keep (Sw p a u) (DK (OC a u.1).x (OC a u.1).y (OC a u.1).q (YG p a u)))
def QF(p:Pt)(a:List Cl)(u:Int×Int):Bool:=decide (AZ p u.1 u.2=0)&&decide (Sw p a u=0)
def JB(p:Pt)(a:List Cl)(l:List (Int×Int)):List (Int×Int):=(l.filter (QF p a)).map (lnV p a)
def EQ(p:Pt)(r:Mv):List (Int×Int):=GX (FD Jl (JB p (Al p r) (AY p.W p.H)))
def c9n(p:Pt)(r:Mv)(L:List Stk):SV:=.tup [.sl 2 (zL (CL p r L) (EQ p r)).length (BX.row (zL (CL p r L) (EQ p r))) (some (zL (CL p r L) (EQ p r)).length),.int .i64 (CL p r L)]
def VW:AH
 | [x]=>(MZ x).map λq=>(q.1,c9n q.2.1 q.2.2.1 q.2.2.2)
 |_=>none
def FLines:Fam:=⟨Pt×Mv×List Stk,λ(p,r,L)=>[.agg (Co p r L)],λ(p,r,L)=>prOK p r/\DV L,λ(p,r,L)=>c9n p r L⟩
def ILines:Pt×Mv×List Stk->Nat->Option Inv
 |(p,r,L),12=>some {β:=Nat,ok:=λi=>i<=(AY p.W p.H).length,st:=λi=>⟨[⟨47,none,.int .i64 i⟩,⟨46,none,.int .i64 (AY p.W p.H).length⟩,⟨45,none,.sl 2 (AY p.W p.H).length (DJ.row (AY p.W p.H)) none⟩,⟨8,none,.osl 1⟩,⟨5,none,.sl 3 (Al p r).length (CJ.row (Al p r)) none⟩,⟨1,none,.own 0 0⟩],[.cells 39 (Co p r L),.row 27 2 (JB p (Al p r) ((AY p.W p.H).take i)).length (BX.row (JB p (Al p r) ((AY p.W p.H).take i))) none]⟩,μ:=λi=>(AY p.W p.H).length-i,nl:=[.slot 8 27 2]}
 |_,_=>none
theorem g1a{p:Pt}{a:List Cl}{l:List (Int×Int)}{i:Nat}(h:i<l.length)(b:QF p a (l.getD i DJ.d)=true):JB p a (l.take (i+1))=JB p a (l.take i)++[lnV p a (l.getD i DJ.d)]:=by rw[GF (d:=DJ.d) h];unfold JB;rw[List.filter_append];generalize l.getD i DJ.d=x at*;simp[b]
theorem d0a{p:Pt}{a:List Cl}{l:List (Int×Int)}{i:Nat}(h:i<l.length)(b:QF p a (l.getD i DJ.d)=false):JB p a (l.take (i+1))=JB p a (l.take i):=by rw[GF (d:=DJ.d) h];unfold JB;rw[List.filter_append];generalize l.getD i DJ.d=x at*;simp[b]
theorem f7a{p:Pt}{a:List Cl}{l:List (Int×Int)}{i:Nat}:(JB p a (l.take i)).length<=l.length:=by unfold JB;rw[Kh];exact Ch
theorem tcV_le(X Y Q U V R:Int):0<=Qt X Y Q U V R:=by
 have h:0<=NY X Y Q U V R [0,1,2]:=by simp only[NY];cases IU X Y Q U V R 0<;>cases IU X Y Q U V R 1<;>cases IU X Y Q U V R 2<;>simp
 unfold Qt;cases Tg X Y Q U V R
 .simp
 .simp only[N9];split<;>omega
theorem d0b:PS 8 VW:=by
 refine LV {l:=[(6,RU),(29,WF),(30,b9k),(32,Rw),(31,WT),(33,c6v),(34,Yb),(40,b2i)],fs:=[(41,b2q)],fsok:=by simpa using d98,x:=[(35,b9z)],h:=[(42,c6z)]} ⟨by simpa using⟨d31,c0b,f7t,UT,d9m,pTouch,c2m,d6h⟩,by simpa using g16,by simpa using pCmpLn⟩ FLines ILines VW ?_ ?_ Tryz.func8 E1 E1 E1 ?_
 .intro args pre s h m;unfold VW at h;split at h
  .rename_i x;simp only[It]at h;obtain⟨⟨q,p,r,L⟩,hx,rfl,rfl⟩:=h;obtain⟨h1,h2,h3⟩:=QQ hx m;exact Ci
  .cases h
 .exact C0
 .rintro⟨p,r,L⟩ ⟨bm,bv⟩;by_cases e:CL p r L=0;rotate_left
  .refine X0a _ ?_;(repeat' first|constructor|intro h)<;>refine Lm ?_
   all_goals(try simp only[Ir,CE,RT.lst_row,IV,IM,Is]at*)
   all_goals(first
    |exact Ae
    |(simp[zL,e];done)
    |rfl
    |skip)
  have k:CH p r=0:=(VG (WS e)).1;have P:=UO bm.2.1 k;have hs:=(FN (Og k).1).1;have hN:=CG hs;have vk:=P.il;have qx:CM p.W p.H=4*p.W*p.H:=Fv;have jy:=WW p.W p.H;have n:Xg p.W p.H=AY p.W p.H:=Ji hs;have f:∀i:Nat,i<AF p.W p.H->0<=((Al p r).getD i CJ.d).q:=λi o=>(P.im i o).2.2.2.1;all_goals refine X0a _ ?_;(repeat' first|constructor|intro h)<;>refine Lm ?_
  all_goals(try simp only[Ir,CE,RT.lst_row,IV,IM,Is]at*)
  all_goals(try first
   |exact Ae
   |exact B5)
  all_goals
   simp only[n];refine⟨(0:Nat),Jw _,?_,?_⟩
   .exact X1d
   .intro j hj;replace hj:j<=(AY p.W p.H).length:=hj;have t:j<(AY p.W p.H).length->_:=λh=>WJ hs (DP (d:=DJ.d) h);have hF:=@f7a p (Al p r) (AY p.W p.H) j;refine X0a _ ?_;(repeat' first|constructor|intro h)<;>refine Lm ?_
    all_goals(try simp only[Ir,CE,RT.lst_row,IV,Is]at*)
    all_goals(try first
     |contradiction
     |exact Ap
     |(obtain⟨q1,q2,q3,q4⟩:=t Dz
       first
        |exact At
        |exact⟨f _ Dz,f _ Dz⟩
        |exact⟨f _ Dz,tcV_le _ _ _ _ _ _⟩)
     |exact A7
     |exact⟨RT.is_row BX _,Dz⟩)
    .have b:j<(AY p.W p.H).length:=Dz;have c:QF p (Al p r) ((AY p.W p.H).getD j DJ.d)=false:=by
      unfold QF;rw[K4 (p:=AZ p _ _=0) E5];rfl
     refine⟨j+1,Fw,Fx,?_⟩;simp only[d0a b c];exact X1g
    .have b:j<(AY p.W p.H).length:=Dz;have c:QF p (Al p r) ((AY p.W p.H).getD j DJ.d)=true:=by
      unfold QF;rw[K3 (p:=AZ p _ _=0) E5,K3 (p:=Sw p _ _=0) E5];rfl
     refine⟨j+1,Fw,Fx,?_⟩;simp only[g1a b c,J4];refine X0a _ ?_;(repeat' first|constructor|intro h)<;>refine Lm ?_
     all_goals first|exact An|exact SC (R:=BX) rfl|skip
    .have b:j<(AY p.W p.H).length:=Dz;have c:QF p (Al p r) ((AY p.W p.H).getD j DJ.d)=false:=by
      unfold QF;rw[K4 (p:=Sw p _ _=0) E5];exact Bool.and_false _
     refine⟨j+1,Fw,Fx,?_⟩;simp only[d0a b c];exact X1g
    all_goals
     have u:j=(AY p.W p.H).length:=Dz;subst u;have v:BX.lst (JB p (Al p r) (AY p.W p.H)).length (BX.row (FD Jl (JB p (Al p r) (AY p.W p.H))))=FD Jl (JB p (Al p r) (AY p.W p.H)):=by have:=RT.lst_row BX (FD Jl (JB p (Al p r) (AY p.W p.H)));rwa[NM]at this
     have g:BX.is (JB p (Al p r) (AY p.W p.H)).length (BX.row (FD Jl (JB p (Al p r) (AY p.W p.H)))):=by have:=RT.is_row BX (FD Jl (JB p (Al p r) (AY p.W p.H)));rwa[NM]at this
     have w:=(c7v (FD Jl (JB p (Al p r) (AY p.W p.H)))).1;rw[NM]at w;simp only[Kw,v,zL,Ji e]at*;first
      |exact⟨g,Dz⟩
      |omega
      |exact⟨Dz,λ_ _=>rfl⟩
      |exact e.symm
      |exact A8
      |skip
theorem ce_in{W H i:Int}(h:IL W H i=0):0<=i/\i<4*W*H:=by
 unfold IL at h;split at h
 .split at h
  .rename_i a;simpa[Qy]using a
  .cases h
 .cases h
theorem cr_in{p:Pt}(h:BN p=0)(f:∀c∈p.l,AD .u8 c.e):∀c∈p.l,(0<=c.c/\c.c<AF p.W p.H)/\(0<=c.e/\c.e<3)/\AR p.W p.H c.c c.e=0:=by
 obtain⟨hs,_,g,_⟩:=FN h;have hN:=CG hs;intro c b;have d:=K2.1 g c b;have a:AR p.W p.H c.c c.e=0:=by simp only[Pk,Kp,N8,L8,not_or,Np]at d;exact d.1
 have i:=f c b;simp only[AD]at i;have k1:IL p.W p.H c.c=0:=by
  rcases Decidable.em (IL p.W p.H c.c=0)with e|e
  .exact e
  .unfold AR at a;rw[Jj e]at a;exact absurd a e
 have k2:FU (BV p.W p.H c.c) (BW p.W p.H c.c) (BZ p.W p.H c.c) c.e=0:=by
  unfold AR at a;rw[Ji k1]at a;split at a
  .assumption
  .cases a
 have k3:c.e<=2:=by
  unfold FU at k2;split at k2
  .rename_i j;exact j.2
  .cases k2
 have k4:=ce_in k1;exact⟨Dz,Dz,a⟩
theorem d2w{p:Pt}(h:BN p=0)(j:∀c∈p.l,AD .u8 c.e):p.l.length<=3072:=by
 have hs:=(FN h).1;have hN:=CG hs;have k:=WG h;have f:=cr_in h j;have g:∀i,i<p.l.length->p.l.getD i d0∈p.l:=λi d=>DP d;have m:∀i:Nat,i<p.l.length->(i:Int)<=3*(p.l.getD i d0).c+(p.l.getD i d0).e:=by
  intro i;induction i with
  |zero=>intro d;have:=f _ (g 0 d);omega
  |succ i n=>
   intro d;have a:=f _ (g (i+1) d);have b:=f _ (g i Dz);have c:=n Dz;have o:=k i (i+1) Dz d;unfold KH IW at o;split at o<;>omega
 rcases Kt p.l.length with q|q
 .omega
 .have a:=m (p.l.length-1) Dz;have b:=f _ (g (p.l.length-1) Dz);omega
theorem cr_key{p:Pt}(h:BN p=0):∀x∈p.l,∀y∈p.l,FV x=FV y->x=y:=by
 have k:=WG h;intro x hx y m e;obtain⟨i,n,rfl⟩:=OX (d:=d0) hx;obtain⟨j,o,rfl⟩:=OX (d:=d0) m;simp only[FV,J9]at e;have f:∀a b,a<b->b<p.l.length->¬((p.l.getD a d0).c=(p.l.getD b d0).c/\(p.l.getD a d0).e=(p.l.getD b d0).e):=λa b q r g=>by have:=k a b q r;unfold KH IW at this;rw[g.1,g.2]at this;simp at this
 rcases My i j with h|h|h
 .exact absurd e (f i j h o)
 .rw[h]
 .exact absurd ⟨e.1.symm,e.2.symm⟩ (f j i h n)
theorem f9d{W H:Int}(_:AV W H=0){u:Int×Int}(b:u∈AY W H):ED W H u.1 u.2=[u.1,u.2]:=by
 unfold AY Ll at b;simp only[Jx,Ki,Kk]at b;obtain⟨m,⟨_,a⟩,rfl⟩:=b;unfold Ol at a;simp only[J3]at a;have c:EI W H (OT m).1 (OT m).2=(OT m).1:=by unfold EI;rw[Ji (by exact a.1)];exact Int.min_eq_left (Int.le_of_lt a.2)
 have d:FI W H (OT m).1 (OT m).2=(OT m).2:=by unfold FI;rw[Ji (by exact a.1)]
 unfold ED;rw[c,d]
theorem c5e(W H:Int):(AY W H).Nodup:=by unfold AY Ll;refine List.Pairwise.map _ ?_ (List.Pairwise.filter _ List.nodup_range);intro a b w5 e;simp only[OT,Prod.mk.injEq]at e;omega
theorem do_cr{p:Pt}{sd:List Int}{i:List Bool}(o:Bool)(h:BN p=0)(k:∀c∈p.l,AD .u8 c.e)(a:i.length=AF p.W p.H):f50 p (GO p sd (AY p.W p.H)) i o/\(GO p sd (AY p.W p.H)).length<=3072:=by
 have hs:=(FN h).1;have hN:=CG hs;have qx:CM p.W p.H=4*p.W*p.H:=Fv;have hl:=d2w h k;have jy:=WW p.W p.H;have j:∀u∈GO p sd (AY p.W p.H),u∈AY p.W p.H/\AZ p u.1 u.2=0:=λu a=>by obtain⟨g,d⟩:=Ki.1 a;unfold QJ at d;simp only[J3]at d;exact⟨g,d.2⟩
 have m:(GO p sd (AY p.W p.H)).length<=3072:=Lr (N3 _ _) Dz;refine⟨⟨⟨Dz,λu n=> ?_⟩,λx hx y b e=> ?_⟩,m⟩
 .have:=(WJ hs (j u n).1).1;omega
 .have f:∀x∈p.l,∀u∈GO p sd (AY p.W p.H),FV x=FV (RE i o u)->False:=λx hx u a e=>by
   obtain⟨g,d⟩:=j u a;have q:=(WJ hs g).2.2.1;have r:EU p.l (ED p.W p.H u.1 u.2)=true:=by rw[f9d hs g];refine K1.2 ⟨x,hx,?_⟩;simp only[FV,RE,J9]at e;simp[HL,e.1,e.2]
   exact absurd d ((VU h q).1 r)
  unfold KL at hx b;rcases K6.1 hx with hx|hx<;>rcases K6.1 b with b|b
  .exact cr_key h x hx y b e
  .obtain⟨u,a,rfl⟩:=Jx.1 b;exact(f x hx u a e).elim
  .obtain⟨u,a,rfl⟩:=Jx.1 hx;exact(f y b u a e.symm).elim
  .obtain⟨u,a,rfl⟩:=Jx.1 hx;obtain⟨v,hv,rfl⟩:=Jx.1 b;simp only[FV,RE,J9]at e;rw[show u=v from Prod.ext e.1 e.2]
theorem WX(A B:List Stk):(BD (A++B)).length=(BD A).length+(BD B).length:=Fy
theorem f05(x:Stk)(A:List Stk):(BD (x::A)).length=x.l.length+(BD A).length:=Fy
theorem b5c:∀(L:List Stk),∀s∈L,s.l.length<=(BD L).length
 | [],s,h=>E9
 |t::L,s,h=>by
  have e:(BD (t::L)).length=t.l.length+(BD L).length:=Fy;rcases Jv.1 h with rfl|h
  .omega
  .have:=b5c L s h;omega
theorem b9e{A B:List Stk}(h:A.Sublist B):(BD A).length<=(BD B).length:=by
 induction h with
 |slnil=>exact Jp _
 |cons a _ b=>simp only[BD,List.flatMap_cons,K8]at b⊢;omega
 |cons_cons a _ b=>simp only[BD,List.flatMap_cons,K8]at b⊢;omega
theorem c47{A B:List Stk}(h:A.Perm B):(BD A).length=(BD B).length:=by unfold BD;exact(List.Perm.flatMap_right _ h).length_eq
theorem d11{A:List Stk}{f:Stk->Stk}(h:∀s,(f s).l.length=s.l.length):(BD (A.map f)).length=(BD A).length:=by
 induction A with
 |nil=>rfl
 |cons s A a=>
  have b:(BD ((s::A).map f)).length=(f s).l.length+(BD (A.map f)).length:=Fy;have c:(BD (s::A)).length=s.l.length+(BD A).length:=Fy;rw[b,c,h,a]
theorem d3m{L:List Stk}:∀i,i<=L.length->(BD ((oF L i).map (·.1))).length=(BD (L.take i)).length
 |0,_=>by simp[oF,BD]
 |i+1,h=>by
  have e:=d3m (L:=L) i Dz;have f:L.take (i+1)=L.take i++[L.getD i AA.d]:=GF (d:=AA.d) Dz;rw[Vc Dz,f,WX,<-e];have g:(BD [L.getD i AA.d]).length=(L.getD i AA.d).l.length:=Fy;rw[g];cases hf:GI (oF L i) (FQ (L.getD i AA.d).c)with
  |some k=>
   have a:=(UW hf).1;rw[Sa hf,List.map_set];have b:k<((oF L i).map (·.1)).length:=by rw[Kh];exact a
   have j:((oF L i).getD k dO).1=((oF L i).map (·.1))[k]:=by simp[a]
   rw[j];generalize (oF L i).map (·.1)=O at b⊢;have m:O=O.take k++O[k]::O.drop (k+1):=by rw[List.getElem_cons_drop,List.take_append_drop]
   rw[List.set_eq_take_append_cons_drop,Ji b];have n:(BD O).length=(BD (O.take k)).length+(O[k].l.length+(BD (O.drop (k+1))).length):=by
    conv=>lhs;rw[m]
    rw[WX,f05]
   rw[n,WX,f05];simp only[K8];omega
  |none=>
   rw[Sh hf,Lv,WX];simp[BD]
theorem g1u(L:List Stk):(BD (Fl L)).length=(BD L).length:=by have a:(Fl L).Perm ((oF L L.length).map (·.1)):=RZ _ _;rw[c47 a,d3m _ (Jp _),Kw]
theorem ov_in{L:List Stk}(b:NC L)(f:(BD L).length<=100000):DV (Fl L):=by
 have hl:=b.2.1;have g:(Fl L).Perm ((oF L L.length).map (·.1)):=RZ _ _;have h:=UQ (L:=L) L.length (Jp _);have i:=c07 b L.length (Jp _);have d:∀s∈Fl L,∃o∈oF L L.length,o.1=s:=λs hs=>by have:=g.mem_iff.1 hs;obtain⟨o,a,e⟩:=Jx.1 this;exact⟨o,a,e⟩
 refine⟨⟨by rw[d7x];omega,λs hs=> ?_⟩,λs hs=> ?_,by rw[g1u];exact f⟩
 .obtain⟨o,a,rfl⟩:=d s hs;exact i o a
 .obtain⟨o,a,rfl⟩:=d s hs;exact h.2.2.1 o a (λc=>AD .u8 c.q) (λs hs=>(b.2.2.1 s hs).1)
def YD:AH
 | [.agg [.int .i64 a,.int .i64 b,.int .u8 c,x],.agg [.int .i64 d,.int .i64 e,.int .u8 f,y]]=>match AC.as x,AC.as y with
   |some u,some v=>some ((AC.isL u.1 u.2/\AC.isL v.1 v.2)/\AD .u8 c/\AD .u8 f,.int .i64 (GM a b c d e f))
   |_,_=>none
 |_=>none
theorem pMv2:PS 68 YD:=by
 refine con [(69,Sx)] Hp FOvr1 (λ_ _=>none) YD ?_ ?_ Tryz.func68 E1 E1 E1 ?_
 .intro args pre s h g;unfold YD at h;split at h
  .rename_i a b c x d e f y;split at h
   .rename_i u v j k;cases h;obtain⟨⟨l,m⟩,n⟩:=g;refine⟨(⟨⟨a,b,c⟩,AC.lst u.1 u.2⟩,⟨⟨d,e,f⟩,AC.lst v.1 v.2⟩),⟨⟨E7,E7,E7,AC.as_leL j l,Jm⟩,⟨E7,E7,E7,AC.as_leL k m,Jm⟩,Jm⟩,n,rfl⟩
   .cases h
  .cases h
 .exact Bz
 .rintro⟨s,t⟩ g;replace g:AD .u8 s.c.q/\AD .u8 t.c.q:=g;exact X2c
theorem ov_st(b:Bool)(L:List Stk)(i:Nat)(x y:Stk):over (EN b (AA.sv x) (AA.row L i)) 0 (AA.sv y)=AA.sv y:=by cases b<;>rfl
theorem ov_st0(L:List Stk)(i:Nat)(y:Stk):over (AA.row L i) 0 (AA.sv y)=AA.sv y:=rfl
theorem d6n{L:List Stk}{i j q:Nat}(hi:i<L.length)(c:j<L.length):
 EN (decide (q=j)) (over (EN (decide (j=i)) (over (AA.row L i) 0 (AA.sv (L.getD j AA.d))) (AA.row L j)) 0 (AA.sv (L.getD i AA.d))) (EN (decide (q=i)) (over (AA.row L i) 0 (AA.sv (L.getD j AA.d))) (AA.row L q))=AA.row (FJ AA.d L i j) q:=by
 rw[ov_st0,ov_st];have e:AA.row (FJ AA.d L i j) q=AA.sv ((FJ AA.d L i j).getD q AA.d):=rfl;rw[e,b7c hi c];by_cases b:q=j
 .rw[Ji b,K3 b];by_cases a:q=i
  .rw[K3 a];rfl
  .rw[K4 a];rfl
 .rw[Jj b,K4 b];by_cases a:q=i
  .rw[Ji a,K3 a];rfl
  .rw[Jj a,K4 a];rfl
abbrev DR:TypeId:=121
def hSwR:HK:=λc own=>match c,own with
 | [.osl 0,.int .i64 a,.int .i64 b,.int .i64 k,.clo f []],[.row T 4 n g _]=>if T=DR/\f=68 then some ⟨AA.isL n g/\n<=100000/\0<=a/\0<=b/\0<=k/\a+k<=n/\b+k<=n,.tup [],[.row DR 4 (AA.lst n g).length (AA.row (MY AA.d a.toNat b.toNat k.toNat 0 (AA.lst n g))) none],[]⟩else none
 |_,_=>none
def FSwR:FamH:=⟨List Stk×Nat×Nat×Nat,λ(_,a,b,k)=>[.osl 0,.int .i64 a,.int .i64 b,.int .i64 k,.clo 68 []],λ(l,_)=>[.row DR 4 l.length (AA.row l) none],λ(l,a,b,k)=>l.length<=100000/\a+k<=l.length/\b+k<=l.length,λ_=>.tup [],λ(l,a,b,k)=>[.row DR 4 l.length (AA.row (MY AA.d a b k 0 l)) none],[]⟩
def ISwR:List Stk×Nat×Nat×Nat->Nat->Option Inv
 |(l,a,b,k),1=>some {β:=Nat×List Stk,ok:=λ(i,m)=>i<=k/\m.length=l.length/\MY AA.d a b (k-i) i m=MY AA.d a b k 0 l,st:=λ(i,m)=>⟨[⟨10,none,.int .i64 i⟩,⟨3,none,.int .i64 k⟩,⟨2,none,.int .i64 b⟩,⟨1,none,.int .i64 a⟩,⟨0,none,.osl 0⟩],[.row DR 4 l.length (AA.row m) none]⟩,μ:=λ(i,_)=>k-i}
 |_,_=>none
theorem Xc{n:Nat}{g:Nat->List SV}{c:Option Nat}(h:AA.isL n g):TL 1 [.row DR 4 n g c] [.row DR 4 (AA.lst n g).length (AA.row (AA.lst n g)) none]:=
 ⟨⟨Em,(RT.lst_length AA n g).symm,Jm,RT.row_isL AA h⟩,Jm⟩
theorem pSwR:HS 269 hSwR:=by
 refine JO {} ⟨E2,E2,E2⟩ FSwR ISwR hSwR ?_ ?_ ?_ Tryz.func269 E1 E1 E1 ?_
 .intro args own r h s;unfold hSwR at h;split at h
  .rename_i a b k f T n g c;split at h
   .rename_i t;obtain⟨rfl,rfl⟩:=t;cases h;obtain⟨u,p2,p3,p4,p5,p6,p7⟩:=s;have hl:=RT.lst_length AA n g;exact⟨(AA.lst n g,a.toNat,b.toNat,k.toNat),⟨Ea,En,En,En,Ea,Jm⟩,rfl,Xc u,⟨Dz,Dz,Dz⟩,rfl,rfl,rfl⟩
   .cases h
  .cases h
 .exact Cf
 .exact C5
 .rintro⟨l,a,b,k⟩ μ ⟨h0,h1,h2⟩;refine X0a _ ?_;(repeat' first|constructor|intro h)<;>refine Lm ?_
  refine⟨((0:Nat),l),⟨Dz,rfl,by rw[Nat.sub_zero]⟩,?_,?_⟩
  .exact X2d
  .rintro⟨i,m⟩ ⟨dj,v,o⟩;have w:((a:Int)+i).toNat=a+i:=Dz;have x:((b:Int)+i).toNat=b+i:=Dz;refine X0b _ ?_;(repeat' first|constructor|intro h)<;>refine Lm ?_
   all_goals(try simp only[Ir,w,x]at*)
   all_goals(try first
    |exact B4
    |(show _<l.length;omega)
    |(intro q _;left
      have e:MY AA.d a b (k-i) i m=m:=by rw[show k-i=0 from Dz];rfl
      rw[<-o,e]))
   refine⟨(i+1,FJ AA.d m (a+i) (b+i)),⟨by show i+1<=k;omega,by show (FJ AA.d m (a+i) (b+i)).length=_;rw[b3n];exact v,?_⟩,by show k-(i+1)<k-i;omega,?_⟩
   .rw[<-o,show k-i=(k-(i+1))+1 from Dz];rfl
   .refine X0b _ ?_;(repeat' first|constructor|intro h)<;>refine Lm ?_
    all_goals first
     |rfl
     |omega
     |exact Bm
     |skip
def hRot:HK:=λc own=>match c,own with
 | [.osl 0,.int .i64 a,.int .i64 m,.int .i64 b,.clo f []],[.row T 4 n g _]=>if T=DR/\f=68 then some ⟨AA.isL n g/\n<=100000/\0<=a/\a<m/\m<b/\b<=n,.tup [],[.row DR 4 (AA.lst n g).length (AA.row (JF AA.d a.toNat m.toNat b.toNat (AA.lst n g))) none],[]⟩else none
 |_,_=>none
def FRot:FamH:=⟨List Stk×Nat×Nat×Nat,λ(_,a,m,b)=>[.osl 0,.int .i64 a,.int .i64 m,.int .i64 b,.clo 68 []],λ(l,_)=>[.row DR 4 l.length (AA.row l) none],λ(l,a,m,b)=>l.length<=100000/\a<m/\m<b/\b<=l.length,λ_=>.tup [],λ(l,a,m,b)=>[.row DR 4 l.length (AA.row (JF AA.d a m b l)) none],[]⟩
def IRot:List Stk×Nat×Nat×Nat->Nat->Option Inv
 |(l,a,m,b),2=>some {β:=Nat×Nat×Nat×List Stk,ok:=λ(f,i,j,L)=>0<i/\0<j/\i<=m/\m+j<=l.length/\i+j<=f/\L.length=l.length/\Ut AA.d m f i j L=JF AA.d a m b l,st:=λ(_,i,j,L)=>⟨[⟨11,none,.int .i64 j⟩,⟨10,none,.int .i64 i⟩,⟨4,none,.clo 68 []⟩,⟨2,none,.int .i64 m⟩,⟨0,none,.osl 0⟩],[.row DR 4 l.length (AA.row L) none]⟩,μ:=λ(f,_)=>f}
 |_,_=>none
theorem pRot:HS 231 hRot:=by
 refine JO {h:=[(269,hSwR)]} ⟨E2,E2,by simpa using pSwR⟩ FRot IRot hRot ?_ ?_ ?_ Tryz.func231 E1 E1 E1 ?_
 .intro args own r h v;unfold hRot at h;split at h
  .rename_i a m b f T n g c;split at h
   .rename_i w;obtain⟨rfl,rfl⟩:=w;cases h;obtain⟨x,p2,p3,p4,p5,p6⟩:=v;have hl:=RT.lst_length AA n g;exact⟨(AA.lst n g,a.toNat,m.toNat,b.toNat),⟨Ea,En,En,En,Ea,Jm⟩,rfl,Xc x,⟨Dz,Dz,Dz,Dz⟩,rfl,rfl,rfl⟩
   .cases h
  .cases h
 .exact Cf
 .exact C5
 .rintro⟨l,a,m,b⟩ μ ⟨h0,h1,h2,h3⟩;refine X0a _ ?_;(repeat' first|constructor|intro h)<;>refine Lm ?_
  all_goals(try(simp only[AD];omega))
  refine⟨(b-a,m-a,b-m,l),⟨by show 0<m-a;omega,by show 0<b-m;omega,by show m-a<=m;omega,by show m+(b-m)<=_;omega,by show m-a+(b-m)<=b-a;omega,rfl,rfl⟩,?_,?_⟩
  .exact X2e
  .rintro⟨f,i,j,L⟩ ⟨y,z,A,B,i5,e,k⟩;obtain⟨f,rfl⟩:∃C,f=C+1:=⟨f-1,Dz⟩
   simp only[Ut]at k;have q:AA.lst l.length (AA.row L)=L:=by rw[<-e];exact RT.lst_row _ _
   have sw:AA.isL l.length (AA.row L):=by rw[<-e];exact AA.isL_row L
   have t:((m:Int)-i).toNat=m-i:=Dz;have u:((m:Int)+j-i).toNat=m+j-i:=Dz;rcases My i j with s|s|s
   .rw[Jj Dz,Jj Dz]at k;refine X0b _ ?_;(repeat' first|constructor|intro h)<;>refine Lm ?_
    all_goals(try simp only[Ir,Is]at*)
    all_goals(try first
     |exact B1
     |(rw[q,e];done))
    have hs:=Wm (d:=AA.d) (a:=m-i) (b:=m+j-i) i 0 L Dz Dz;refine⟨(f,i,j-i,MY AA.d (m-i) (m+j-i) i 0 L),⟨y,by show 0<j-i;omega,A,by show m+(j-i)<=_;omega,by show i+(j-i)<=f;omega,by show (MY AA.d (m-i) (m+j-i) i 0 L).length=_;rw[hs.1];exact e,k⟩,Ei,?_⟩;all_goals exact X2f
   .rw[Ji s]at k;refine X0b _ ?_;(repeat' first|constructor|intro h)<;>refine Lm ?_
    all_goals(try simp only[Ir,Is]at*)
    all_goals(try first
     |exact B1
     |(rw[q,e];done))
    all_goals(try simp only[q,t])
    all_goals(try rw[<-k])
    all_goals first|rfl|exact e|exact A5|skip
   .rw[Jj Dz,Ji s]at k;refine X0b _ ?_;(repeat' first|constructor|intro h)<;>refine Lm ?_
    all_goals(try simp only[Ir,Is]at*)
    all_goals(try first
     |exact B1
     |(rw[q,e];done))
    have hs:=Wm (d:=AA.d) (a:=m-i) (b:=m) j 0 L Dz Dz;refine⟨(f,i-j,j,MY AA.d (m-i) m j 0 L),⟨by show 0<i-j;omega,z,by show i-j<=m;omega,B,by show i-j+j<=f;omega,by show (MY AA.d (m-i) m j 0 L).length=_;rw[hs.1];exact e,k⟩,Ei,?_⟩;all_goals exact X2f
def Ao(x y:Stk):Bool:=decide (GM x.c.x x.c.y x.c.q y.c.x y.c.y y.c.q<0)
theorem QY{x y:Stk}:Ao x y=true↔GM x.c.x x.c.y x.c.q y.c.x y.c.y y.c.q<0:=by unfold Ao;exact decide_eq_true_iff
theorem c2k{a j:Nat}{M:List Stk}(c:a<j)(b:Ao (M.getD j AA.d) (M.getD (j-1) AA.d)=true):HW AA.d Ao a j M=HW AA.d Ao a (j-1) (FJ AA.d M j (j-1)):=by
 obtain⟨k,rfl⟩:∃k,j=k+1:=⟨j-1,Dz⟩
 simp only[O3]at b⊢;rw[HW,Ji ⟨c,b⟩]
theorem b88{a j:Nat}{M:List Stk}(h:¬(a<j/\Ao (M.getD j AA.d) (M.getD (j-1) AA.d)=true)):HW AA.d Ao a j M=M:=by
 cases j with
 |zero=>rfl
 |succ k=>
  simp only[O3]at h;rw[HW,Jj h]
def hIns:HK:=λe own=>match e,own with
 | [.osl 0,.int .i64 a,.int .i64 b,.clo f []],[.row T 4 n g _]=>if T=DR/\f=68 then some ⟨AA.isL n g/\n<=100000/\0<=a/\a<=100000/\0<=b/\b<=n/\(∀s∈AA.lst n g,AD .u8 s.c.q),.tup [],[.row DR 4 (AA.lst n g).length (AA.row (HP AA.d Ao a.toNat b.toNat (AA.lst n g))) none],[]⟩else none
 |_,_=>none
def FIns:FamH:=⟨List Stk×Nat×Nat,λ(_,a,b)=>[.osl 0,.int .i64 a,.int .i64 b,.clo 68 []],λ(l,_)=>[.row DR 4 l.length (AA.row l) none],λ(l,a,b)=>l.length<=100000/\a<=100000/\b<=l.length/\∀s∈l,AD .u8 s.c.q,λ_=>.tup [],λ(l,a,b)=>[.row DR 4 l.length (AA.row (HP AA.d Ao a b l)) none],[]⟩
def IIns:List Stk×Nat×Nat->Nat->Option Inv
 |(l,a,b),1=>some {β:=Nat×List Stk,ok:=λ(i,L)=>a+1<=i/\i<=a+b+1/\Sub L l/\MF AA.d Ao a (b-i) i L=HP AA.d Ao a b l,st:=λ(i,L)=>⟨[⟨8,none,.int .i64 i⟩,⟨3,none,.clo 68 []⟩,⟨2,none,.int .i64 b⟩,⟨1,none,.int .i64 a⟩,⟨0,none,.osl 0⟩],[.row DR 4 l.length (AA.row L) none]⟩,μ:=λ(i,_)=>b-i,sub:=λ(i,_)=>some fun
  |4=>some {β:=Nat×List Stk,ok:=λ(j,L)=>j<=i/\i<b/\Sub L l/\MF AA.d Ao a (b-(i+1)) (i+1) (HW AA.d Ao a j L)=HP AA.d Ao a b l,st:=λ(j,L)=>⟨[⟨9,none,.int .i64 j⟩,⟨8,none,.int .i64 i⟩,⟨3,none,.clo 68 []⟩,⟨2,none,.int .i64 b⟩,⟨1,none,.int .i64 a⟩,⟨0,none,.osl 0⟩],[.row DR 4 l.length (AA.row L) none]⟩,μ:=λ(j,_)=>j}
  |_=>none}
 |_,_=>none
theorem pIns:HS 173 hIns:=by
 refine JO {l:=[(68,YD)]} ⟨by simpa using pMv2,E2,E2⟩ FIns IIns hIns ?_ ?_ ?_ Tryz.func173 E1 E1 E1 ?_
 .intro args own r h w;unfold hIns at h;split at h
  .rename_i a b f T n g c;split at h
   .rename_i z;obtain⟨rfl,rfl⟩:=z;cases h;obtain⟨A,p2,p3,p4,p5,p6,B⟩:=w;have hl:=RT.lst_length AA n g;exact⟨(AA.lst n g,a.toNat,b.toNat),⟨Ea,En,En,Ea,Jm⟩,rfl,Xc A,⟨Dz,Dz,Dz,B⟩,rfl,rfl,rfl⟩
   .cases h
  .cases h
 .intro i;show 4<=_;decide
 .exact C5
 .rintro⟨l,a,b⟩ μ ⟨h0,h1,h2,C⟩;refine X0a _ ?_;(repeat' first|constructor|intro h)<;>refine Lm ?_
  all_goals(try(simp only[AD];omega))
  refine⟨(a+1,l),⟨Jp _,by show a+1<=a+b+1;omega,Sub.refl l,rfl⟩,?_,?_⟩
  .exact X2e
  .rintro⟨i,L⟩ ⟨i1,i2,E,o⟩;refine X0b _ ?_;(repeat' first|constructor|intro h)<;>refine Lm ?_
   all_goals(try simp only[Ir]at*)
   all_goals(try first
    |exact B4
    |(intro q _;left
      have e:MF AA.d Ao a (b-i) i L=L:=by rw[show b-i=0 from Dz];rfl
      rw[<-o,e]))
   refine⟨(i,L),⟨Jp _,Dz,E,?_⟩,?_,?_⟩
   .rw[<-o,show b-i=(b-(i+1))+1 from Dz];rfl
   .exact X2d
   .rintro⟨j,M⟩ ⟨j1,F,m,s⟩;have hq:∀x,x<l.length->AD .u8 (M.getD x AA.d).c.q:=λx hx=>C _ (m.2 _ (by rw[Jg,Jh (by rw[m.1];exact hx),L5];exact Kj _));have hM:=m.1;have t:((j:Int)-1).toNat=j-1:=Dz;by_cases u:a<j/\GM (M.getD j AA.d).c.x (M.getD j AA.d).c.y (M.getD j AA.d).c.q (M.getD (j-1) AA.d).c.x (M.getD (j-1) AA.d).c.y (M.getD (j-1) AA.d).c.q<0
    .obtain⟨G,H⟩:=u;refine X0b _ ?_;(repeat' first|constructor|intro h)<;>refine Lm ?_
     all_goals(try simp only[Ir,Ix,t]at*)
     all_goals(try first
      |exact B6
      |(show j<l.length;omega)
      |(show j-1<l.length;omega)
      |exact Bt)
     have hs:=Rt (d:=AA.d) (l:=M) (i:=j) (j:=j-1) Dz Dz;refine⟨(j-1,FJ AA.d M j (j-1)),⟨by show j-1<=i;omega,F,hs.trans m,?_⟩,by show j-1<j;omega,?_⟩
     .rw[<-s,c2k G (QY.2 H)]
     .refine X0b _ ?_;(repeat' first|constructor|intro h)<;>refine Lm ?_
      all_goals first
       |exact Be
       |exact Bm
       |skip
    .refine X0b _ ?_;(repeat' first|constructor|intro h)<;>refine Lm ?_
     all_goals(try simp only[Ir,Ix,t]at*)
     all_goals(try first
      |exact B6
      |exact Bt)
     have e:HW AA.d Ao a j M=M:=b88 (λv=>u ⟨v.1,QY.1 v.2⟩);refine⟨(i+1,M),⟨by show a+1<=i+1;omega,by show i+1<=a+b+1;omega,m,by rw[<-s,e]⟩,by show b-(i+1)<b-i;omega,?_⟩;all_goals refine X0b _ ?_;(repeat' first|constructor|intro h)<;>refine Lm ?_
     all_goals first
      |exact As
      |skip
end Go.Proofs.YtlffhjfkaepimaaGreatDoor.V
