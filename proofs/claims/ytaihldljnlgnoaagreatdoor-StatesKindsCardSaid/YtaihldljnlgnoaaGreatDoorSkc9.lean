/-
  Parts of the proof: C9a C9b C9c C9 C10 C11a C11 C12 C13 C14 C30 Y1 Y2 Y3 Y4 Y5 Y6 Y7 Y8 D5. Conditions: none.
-/
import Derived.Test.YtaihldljnlgnoaaGreatDoorSkc5
import Derived.Test.YtaihldljnlgnoaaGreatDoorSkc7
import Derived.Test.YtaihldljnlgnoaaGreatDoorSkc8
set_option maxRecDepth 100000
set_option maxHeartbeats 40000000
namespace Go.Proofs
open Go Go.Lib Go.RowKit Go.Shelf Go.Sort
shelf_lay_g SlLaysF0.n6 Slsf 6 at Tryz 106 as Tryz.sortKey
end Go.Proofs
namespace Go.Proofs.YtaihldljnlgnoaaGreatDoor.V
open Go
def BP(c:Cl):List Int:=[c.y,c.x,c.q]
theorem Sw(a b:Cl):FQ a.x a.y a.q b.x b.y b.q=BB (BP a) (BP b):=by
 simp only[FQ,RX,BB,BP,CY];repeat' split
 all_goals(first|rfl|omega)
theorem b92{a b:Cl}(h:BP a=BP b):a=b:=by simp only[BP,Ix]at h;exact Cl.ext' h.2.1 h.1 h.2.2
theorem c6g{L:List Stk}(h:∀i,0<i->i<L.length->BB (BP (L.getD (i-1) AA.d).c) (BP (L.getD i AA.d).c)<0):∀j i,i<j->j<L.length->BB (BP (L.getD i AA.d).c) (BP (L.getD j AA.d).c)<0
 |0,i,b,_=>Dx
 |j+1,i,b,f=>by
  have a:=h (j+1) Dx f;simp only[Nr]at a;by_cases e:i=j
  .subst e;exact a
  .exact VZ _ _ _ (c6g h j i Dx Dx) a
theorem b6u:∀(n:Nat) (l:List Int),l.Nodup->(∀x∈l,0<=x/\x<n)->l.length<=n
 |0,[],_,_=>Jf _
 |0,x::l,_,h=>by have:=h x Dz;omega
 |n+1,l,a,h=>by
  by_cases e:(n:Int)∈l
  .have b:=b6u n (l.erase n) (a.erase _) (λx hx=>by
    have:=(List.Nodup.mem_erase_iff a).1 hx;have:=h x this.2;omega)
   rw[List.length_erase_of_mem e]at b;omega
  .have:=b6u n l a (λx hx=>by
    have:=h x hx;have:x≠n:=λc=>e (c▸hx);omega)
   omega
theorem b66:∀{l:List Int},JN l=false->l.Nodup
 | [],_=>N6
 |x::l,h=>by simp only[JN,Lt]at h;exact L5.2 ⟨by simpa using h.1,b66 h.2⟩
structure SkOK (p:Pt) (r:Mv) (L:List Stk):Prop where
 hs:AP p.W p.H=0
 P:PlOK p r
 lt:∀i j,i<j->j<L.length->BB (BP (L.getD i AA.d).c) (BP (L.getD j AA.d).c)<0
 vc:∀s∈L,vC s.c
 ne:∀s∈L,s.l≠[]
 nd:(Ao L).Nodup
 rg:∀v∈Ao L,0<=v/\v<4*p.W*p.H
 all:∀u:Int,0<=u->u<4*p.W*p.H->u∈Ao L
 im:∀s∈L,∀v∈s.l,(CC p r).getD v.toNat DE.d=s.c
 nb:∀s∈L,∀e:Int,0<=e->e<3->GC s.c.x s.c.y s.c.q e=0
theorem CP{α:Type}{l:List α}{i:Nat}{d:α}(h:i<l.length):l.getD i d∈l:=by rw[J5,J6 h];exact Kb h
theorem NH{α:Type}{l:List α}{x d:α}(h:x∈l):∃i,i<l.length/\l.getD i d=x:=by obtain⟨i,a,e⟩:=K7.1 h;exact⟨i,a,by rw[J5,J6 a];exact e⟩
theorem Vt{p:Pt}{r:Mv}{L:List Stk}(h:CX p r L=0):Bo p r=0/\HE p.W p.H L=0/\L.any (QN (CC p r))=false/\L.any Sf=false:=by
 unfold CX at h;split at h
 .rename_i a;split at h
  .rename_i b;split at h
   .cases h
   .rename_i h3;split at h
    .cases h
    .rename_i h4;exact⟨a,b,Gi,Fg⟩
  .rename_i b;exact absurd h b
 .rename_i a;exact absurd h a
theorem Yg{p:Pt}{r:Mv}{L:List Stk}(h:CX p r L=0)(z:0<=r.t)(A:∀s∈L,AD .u8 s.c.q):SkOK p r L:=by
 obtain⟨B,C,E,F⟩:=Vt h;obtain⟨hs,n,G,hl⟩:=b7m C;have I:=c10 n;have hc:DS p.W p.H=4*p.W*p.H:=by simp[DS,hs]
 have hN:=CF hs;have o:=b66 G;have w:∀v∈Ao L,0<=v/\v<4*p.W*p.H:=by intro v k;obtain⟨s,hs',J⟩:=Mi.1 k;obtain⟨i,a,rfl⟩:=NH (d:=AA.d) hs';have:=I i a v J;omega
 have b:∀i,i<L.length->(EC (L.getD i AA.d).c.x (L.getD i AA.d).c.y (L.getD i AA.d).c.q=0/\(0<i->BB (BP (L.getD (i-1) AA.d).c) (BP (L.getD i AA.d).c)<0))/\(L.getD i AA.d).l≠[]:=by
  intro i a;have:=n i a;unfold IZ at this;simp only[Lt,Bool.and_eq_false_iff,Bool.not_eq_false',Im]at this;obtain⟨⟨⟨g1,f⟩,K⟩,_⟩:=this;refine⟨⟨g1,λm=> ?_⟩,λe=>K (by rw[e];rfl)⟩;rw[<-Sw];have e:((i:Int)-1).toNat=i-1:=Dx;rw[e]at f;rcases f with f|f
  .exact absurd Dx f
  .omega
 refine⟨hs,Oy z B,λi j M N=>c6g (λi m a=>(b i a).1.2 m) j i M N,λs hs'=> ?_,λs hs'=> ?_,o,w,λu m hu=> ?_,λs hs' v k=> ?_,λs hs' e kg he=> ?_⟩
 .obtain⟨i,a,rfl⟩:=NH (d:=AA.d) hs';have g:=(b i a).1.1;have f:=A _ hs';simp only[AD]at f;unfold EC at g;split at g
  .unfold vC;omega
  .cases g
 .obtain⟨i,a,rfl⟩:=NH (d:=AA.d) hs';exact(b i a).2
 .apply Classical.byContradiction;intro O;have:=b6u (AG p.W p.H) (u::Ao L) (L5.2 ⟨O,o⟩) (λx hx=>by
   rcases Ji.1 hx with rfl|hx
   .omega
   .have:=w x hx;omega)
  simp only[Kt]at this;omega
 .have:=Jx.1 E s hs';unfold QN at this;have:=Jx.1 (by simpa using this:s.l.any (NT (CC p r) s.c)=false) v k;simpa[NT]using this
 .have:=Jx.1 F s hs';unfold Sf at this;have:=Jx.1 (by simpa using this:(List.range 3).any (QZ s.c)=false) e.toNat (Ka.2 Dx)
  have P:((e.toNat:Nat):Int)=e:=Dx;simpa[QZ,P]using this
def RE(h:List Int)(q:Int×Nat):List Int:=h.set q.1.toNat (q.2:Int)
def Rv(L:List Stk):List (Int×Nat):=L.flatMap λs=>s.l.zipIdx
def HW(L:List Stk)(n:Nat):List Int:=(Rv L).foldl RE (List.replicate n 0)
theorem b8u:∀(l:List (Int×Nat)) (h:List Int),(l.foldl RE h).length=h.length
 | [],_=>rfl
 |q::l,h=>by rw[M3,b8u l];simp[RE]
theorem Xg(L:List Stk)(n:Nat):(HW L n).length=n:=by simp[HW,b8u]
theorem b76:∀(l:List (Int×Nat)) (h:List Int) (v:Int),0<=v->(∀q∈l,0<=q.1/\q.1≠v)->(l.foldl RE h).getD v.toNat 0=h.getD v.toNat 0
 | [],_,_,_,_=>rfl
 |q::l,h,v,b,a=>by rw[M3,b76 l _ v b (λx hx=>a x Eh)];have:=a q Dz;have c:q.1.toNat≠v.toNat:=Dx;simp[RE,Jk c]
theorem c6y:∀(l:List (Int×Nat)) (h:List Int),(l.map (·.1)).Nodup->(∀q∈l,0<=q.1/\q.1<h.length)->∀q∈l,(l.foldl RE h).getD q.1.toNat 0=q.2
 | [],_,_,_,q,a=>by simp at a
 |x::l,h,b,c,q,a=>by
  rw[M3];rw[Kr,L5]at b;rcases Ji.1 a with rfl|a
  .have hx:=c q Dz;rw[b76 l _ q.1 hx.1 (λy hy=>⟨(c y Ex).1,λe=>b.1 (Js.2 ⟨y,hy,e⟩)⟩)];have:q.1.toNat<h.length:=Dx;simp[RE,this]
  .exact c6y l _ b.2 (λy hy=>by have:=c y Ex;simpa[RE]using this) q a
theorem c1s(L:List Stk):(Rv L).map (·.1)=Ao L:=by unfold Rv Ao;rw[List.map_flatMap];congr 1;funext s;simp
section
variable{p:Pt}{r:Mv}{L:List Stk}
theorem f94(S:SkOK p r L){s:Stk}(hs:s∈L){k:Nat}(a:k<s.l.length):(HW L (AG p.W p.H)).getD (s.l.getD k 0).toNat 0=k:=by
 have hN:=CF S.hs;have b:(s.l.getD k 0,k)∈Rv L:=by refine Mi.2 ⟨s,hs,?_⟩;rw[List.mem_zipIdx_iff_getElem?];simp[a]
 have:=c6y (Rv L) (List.replicate (AG p.W p.H) 0) (by rw[c1s];exact S.nd) (λq c=>by
  have d:q.1∈Ao L:=by rw[<-c1s];exact Js.2 ⟨q,c,rfl⟩
  have:=S.rg _ d;simp;omega) _ b
 exact this
theorem Xi(S:SkOK p r L){u:Int}(b:0<=u)(h:u<4*p.W*p.H):∃i k,i<L.length/\k<(L.getD i AA.d).l.length/\(L.getD i AA.d).l.getD k 0=u/\(CC p r).getD u.toNat DE.d=(L.getD i AA.d).c:=by obtain⟨s,hs,a⟩:=Mi.1 (S.all u b h);obtain⟨i,f,rfl⟩:=NH (d:=AA.d) hs;obtain⟨k,g,e⟩:=NH (d:=(0:Int)) a;exact⟨i,k,f,g,e,S.im _ hs _ a⟩
theorem f46(S:SkOK p r L){u v:Int}(b:0<=u/\u<4*p.W*p.H)(c:0<=v/\v<4*p.W*p.H)(hi:(CC p r).getD u.toNat DE.d=(CC p r).getD v.toNat DE.d)
 (hh:(HW L (AG p.W p.H)).getD u.toNat 0=(HW L (AG p.W p.H)).getD v.toNat 0):u=v:=by
 obtain⟨i,k,a,g,e,l⟩:=Xi S b.1 b.2;obtain⟨j,m,n,o,f,q⟩:=Xi S c.1 c.2;rw[l,q]at hi;have s:i=j:=by
  rcases N0 i j with h|h|h
  .have:=S.lt i j h n;rw[hi,VG]at this;omega
  .exact h
  .have:=S.lt j i h a;rw[hi,VG]at this;omega
 subst s;have t:=f94 S (CP (d:=AA.d) a) g;have w:=f94 S (CP (d:=AA.d) a) o;rw[e]at t;rw[f]at w;have:k=m:=Dx;subst this;rw[<-e,<-f]
theorem f8f{m:Mv}{c:Cl}{e:Int}(a:vM m)(b:(-300<=c.x/\c.x<=300)/\(-300<=c.y/\c.y<=300)/\0<=c.q/\c.q<=3)(f:0<=e/\e<3):∃d,(0<=d/\d<3)/\DX m (AV c e)=AV (DX m c) d:=by
 have hb:=MX b.2.2 f;rw[Il a Dx,Il a Dx];obtain⟨X,Y,Q⟩:=c;simp only at b;refine⟨if e=0 then 0 else if m.t=0\/m.t=2\/m.t=5\/m.t=7 then e else 3-e,by split<;>(try split)<;>omega,?_⟩;rcases EW b.2.2 with rfl|rfl|rfl|rfl<;>rcases GS f with rfl|rfl|rfl<;>rcases FT a with h|h|h|h|h|h|h|h<;>rw[h]<;>
  (simp[AV,sq,tq,EI,EK,EM,tb];try omega)
theorem c0j{c:Cl}{e a:Int}(b:0<=c.q/\c.q<=3)(d:0<=e/\e<3)(f:0<=a/\a<3)(h:AV c e=AV c a):e=a:=by obtain⟨X,Y,Q⟩:=c;simp only at b;rcases EW b with rfl|rfl|rfl|rfl<;>rcases GS d with rfl|rfl|rfl<;>rcases GS f with rfl|rfl|rfl<;>first|rfl|(exfalso;revert h;simp[AV,EI,EK,EM,tb])
theorem Vm{c:Cl}{e:Int}(a:0<=c.q/\c.q<=3)(b:0<=e/\e<3):AV c e≠c:=by obtain⟨X,Y,Q⟩:=c;simp only at a;rcases EW a with rfl|rfl|rfl|rfl<;>rcases GS b with rfl|rfl|rfl<;>(intro h;revert h;simp[AV,EI,EK,EM,tb])
def CT(p:Pt)(r:Mv)(u:Int):Cl:=(CC p r).getD u.toNat DE.d
def AL(p:Pt)(r:Mv)(u:Int):Mv:=(BC p r).getD u.toNat AE.d
def GA(p:Pt)(r:Mv)(u e:Int):Cl:=DX (AL p r u) (AV (AJ p.W p.H u) e)
theorem WH(hs:AP p.W p.H=0){u:Int}(a:0<=u)(h:u<4*p.W*p.H):(-300<=(AJ p.W p.H u).x/\(AJ p.W p.H u).x<=300)/\(-300<=(AJ p.W p.H u).y/\(AJ p.W p.H u).y<=300)/\0<=(AJ p.W p.H u).q/\(AJ p.W p.H u).q<=3:=by have:=PH hs a h;omega
theorem Tw(S:SkOK p r L){u:Int}(h0:0<=u)(h:u<4*p.W*p.H):CT p r u=DX (AL p r u) (AJ p.W p.H u)/\vM (AL p r u)/\vC (CT p r u):=by have hN:=CF S.hs;have a:=S.P.im u.toNat Dx;have e:((u.toNat:Nat):Int)=u:=Dx;rw[e]at a;exact⟨a.1,S.P.vm _ Dx,a.2⟩
theorem Xj(S:SkOK p r L){u e:Int}(f:0<=u)(h:u<4*p.W*p.H)(m:0<=e/\e<3):vC (GA p r u e)/\GA p r u e≠CT p r u/\∃a,(0<=a/\a<3)/\GA p r u e=AV (CT p r u) a:=by
 obtain⟨g1,n,l⟩:=Tw S f h;obtain⟨a,c,o⟩:=f8f n (WH S.hs f h) m;have g:GA p r u e=AV (CT p r u) a:=by rw[g1];exact o
 obtain⟨i,k,s,hk,hu,t⟩:=Xi S f h;have b:=S.nb _ (CP (d:=AA.d) s) a c.1 c.2;rw[<-t]at b;refine⟨?_,?_,a,c,g⟩
 .rw[g];have hb:=MX l.2.2 c;unfold GC at b;split at b
  .split at b
   .rename_i j;unfold EC at j;split at j
    .rename_i v;unfold vC;have:(AV (CT p r u) a).x=EI (CT p r u).q a+(CT p r u).x:=rfl;have:(AV (CT p r u) a).y=EK (CT p r u).q a+(CT p r u).y:=rfl;have h7: -4096<=EI (CT p r u).q a+(CT p r u).x/\EI (CT p r u).q a+(CT p r u).x<=4096/\ -4096<=EK (CT p r u).q a+(CT p r u).y/\EK (CT p r u).q a+(CT p r u).y<=4096/\EM (CT p r u).q a<=3:=v;omega
    .cases j
   .cases b
  .cases b
 .rw[g];exact Vm l.2.2 c
theorem g05(S:SkOK p r L){u e a:Int}(b:0<=u)(h:u<4*p.W*p.H)(d:0<=e/\e<3)(f:0<=a/\a<3)(g:GA p r u e=GA p r u a):e=a:=by obtain⟨g1,i,g3⟩:=Tw S b h;have hc:=IY S.hs b h;have c:=WH S.hs b h;have b1:=MX c.2.2 d;have b2:=MX c.2.2 f;exact c0j c.2.2 d f (d11 i G1 G1 g)
end
def BF(p:Pt)(r:Mv)(L:List Stk):Bd:=⟨p,BC p r,CC p r,HW L (AG p.W p.H)⟩
def EJ(b:Bd):Nat->List Sm
 |0=>[]
 |k+1=>GO b ((k/3:Nat):Int) ((k%3:Nat):Int) (EJ b k)
def CW(s:Sm)(d:Int):Cl:=if d=0 then s.a else s.b
def Pj(s:Sm)(d:Int):Cl:=if d=0 then s.b else s.a
def AQ(p:Pt)(u:Int):Prop:=0<=u/\u<4*p.W*p.H
def VO(p:Pt)(r:Mv)(x y:Int)(c:Cl):Prop:=∃e,(0<=e/\e<3)/\GA p r x e=c/\AU p.W p.H x e=0/\y=AF p.W p.H x e
def PsOK(p:Pt)(r:Mv)(s:Sm)(x:Pa):Prop:=(AQ p x.a/\AQ p x.b)/\(CT p r x.a=s.a/\CT p r x.b=s.b)/\VO p r x.a x.b s.b/\VO p r x.b x.a s.a
def Wt(p:Pt)(r:Mv)(s:Sm)(x:Lo):Prop:=(x.s=0\/x.s=1)/\(AQ p x.a/\AQ p x.b)/\(CT p r x.a=CW s x.s/\CT p r x.b=CW s x.s)/\VO p r x.a x.b (Pj s x.s)/\VO p r x.b x.a (Pj s x.s)
structure SmOK (p:Pt) (r:Mv) (s:Sm):Prop where
 ab:BB (BP s.a) (BP s.b)<0
 va:vC s.a
 vb:vC s.b
 ps:∀x∈s.ps,PsOK p r s x
 ls:∀x∈s.ls,Wt p r s x
 en:∀x∈s.en,AQ p x
section
variable{p:Pt}{r:Mv}{L:List Stk}
theorem imS_of(u:Int):Dl (BF p r L) u=CT p r u:=rfl
theorem f9n(S:SkOK p r L){u e:Int}(a:AQ p u)(b:0<=e/\e<3):EV (BF p r L) u e=GA p r u e:=by
 obtain⟨g1,g,g3⟩:=Tw S a.1 a.2;obtain⟨i,_,_⟩:=Xj S a.1 a.2 b;have j:=f5a S.hs a.1 a.2 b;have c:GC (BW p.W p.H u) (BX p.W p.H u) (BZ p.W p.H u) e=0:=j;have k:JE (BW p.W p.H u) (BX p.W p.H u) (BZ p.W p.H u) e=(AV (AJ p.W p.H u) e).x:=by simp[JE,c,AV,AJ]
 have l:JG (BW p.W p.H u) (BX p.W p.H u) (BZ p.W p.H u) e=(AV (AJ p.W p.H u) e).y:=by simp[JG,c,AV,AJ]
 have m:Ho (BW p.W p.H u) (BX p.W p.H u) (BZ p.W p.H u) e=(AV (AJ p.W p.H u) e).q:=by simp[Ho,c,AV,AJ]
 have n:=WH S.hs a.1 a.2;have hb:=MX n.2.2 b;have o:EC (AV (AJ p.W p.H u) e).x (AV (AJ p.W p.H u) e).y (AV (AJ p.W p.H u) e).q=0:=Gm;have ed:EC (GA p r u e).x (GA p r u e).y (GA p r u e).q=0:=by unfold vC at i;unfold EC;rw[if_pos];omega
 have s:HG (AL p r u).t (AL p r u).x (AL p r u).y (AV (AJ p.W p.H u) e).x (AV (AJ p.W p.H u) e).y (AV (AJ p.W p.H u) e).q=0:=by unfold HG;rw[J7 ⟨g.2,o⟩,J7];exact ed
 show (⟨keep _ _,keep _ _,keep _ _⟩:Cl)=_;simp only[BF];rw[k,l,m];have f:HG ((BC p r).getD u.toNat AE.d).t ((BC p r).getD u.toNat AE.d).x ((BC p r).getD u.toNat AE.d).y (AV (AJ p.W p.H u) e).x (AV (AJ p.W p.H u) e).y (AV (AJ p.W p.H u) e).q=0:=s;simp only[keep,f,Kp];rfl
theorem f75{a b:Cl}(h:a≠b):BB (BP a) (BP b)<0\/BB (BP b) (BP a)<0:=by
 have:=JQ (BP a) (BP b);by_cases e:BB (BP a) (BP b)=0
 .exact absurd (b92 (Pz _ _ e)) h
 .omega
theorem lohi{x y:Cl}(h:x≠y):BB (BP (Oh x y)) (BP (OV x y))<0/\((Oh x y=x/\OV x y=y)\/(Oh x y=y/\OV x y=x)):=by
 unfold Oh OV;rw[Sw];have:=JQ (BP x) (BP y);rcases f75 h with a|a
 .rw[J8 Dx,J8 Dx];exact⟨a,.inl ⟨rfl,rfl⟩⟩
 .rw[J7 Dx,J7 Dx];exact⟨a,.inr ⟨rfl,rfl⟩⟩
theorem c2h{s t:Sm}(h:BU s=BU t):s.a=t.a/\s.b=t.b:=by simp only[BU,Ix]at h;exact⟨Cl.ext' h.1 h.2.1 h.2.2.1,Cl.ext' h.2.2.2.1 h.2.2.2.2.1 h.2.2.2.2.2⟩
theorem b4e{S:List Sm}{q:List Int}(h:DR S q=true):BU (S.getD (CQ S q) BD)=q:=by have a:=LY h;have:=List.findIdx_getElem (p:=λs=>decide (BU s=q)) (xs:=S) (w:=a);rw[J5,J6 a];unfold CQ;simpa using this
theorem c0y(S:SkOK p r L){u e:Int}(a:AQ p u)(b:0<=e/\e<3)(c:AU p.W p.H u e=0)(k:AZ p u e=0):
 AQ p (AF p.W p.H u e)/\CT p r (AF p.W p.H u e)=GA p r u e/\GA p r (AF p.W p.H u e) e=CT p r u/\AU p.W p.H (AF p.W p.H u e) e=0/\AF p.W p.H (AF p.W p.H u e) e=u:=by
 have hN:=CF S.hs;obtain⟨d,g⟩:=GH S.hs a.1 a.2 b c;have h:=Qq S.hs a.1 a.2 b c;have f:((u.toNat:Nat):Int)=u:=by have:=a.1;omega
 have i:=S.P.pass u.toNat e (by have:=a.1;have:=a.2;omega) b (by rw[f];exact c) (by rw[f];exact k);rw[f]at i;have j:AL p r (AF p.W p.H u e)=AL p r u:=i;have l:=(Tw S d.1 d.2).1;have m:=(Tw S a.1 a.2).1;refine⟨d,?_,?_,h.1,h.2⟩
 .rw[l,j,g];rfl
 .unfold GA;rw[j,g,VQ (WH S.hs a.1 a.2).2.2 b,m]
theorem c1j(S:SkOK p r L){u e:Int}(a:AQ p u)(b:0<=e/\e<3)(d:AU p.W p.H u e=0)(i:AZ p u e≠0):
 AQ p (AF p.W p.H u e)/\CT p r (AF p.W p.H u e)=CT p r u/\GA p r (AF p.W p.H u e) e=GA p r u e/\AU p.W p.H (AF p.W p.H u e) e=0/\AF p.W p.H (AF p.W p.H u e) e=u:=by
 have hN:=CF S.hs;obtain⟨j,g⟩:=GH S.hs a.1 a.2 b d;have h:=Qq S.hs a.1 a.2 b d;have f:((u.toNat:Nat):Int)=u:=by have:=a.1;omega
 have c:=S.P.loop u.toNat e (by have:=a.1;have:=a.2;omega) b (by rw[f];exact d) (by rw[f];exact i);rw[f]at c;obtain⟨c,k⟩:=c;refine⟨j,c,?_,h.1,h.2⟩;show DX (AL p r (AF p.W p.H u e)) (AV (AJ p.W p.H (AF p.W p.H u e)) e)=DX (AL p r u) (AV (AJ p.W p.H u) e);rw[g,VQ (WH S.hs a.1 a.2).2.2 b,<-g];exact k
theorem add_ok(S:SkOK p r L){u e:Int}(g:AQ p u)(f:0<=e/\e<3){s:Sm}(h:SmOK p r s)(A:(s.a=CT p r u/\s.b=GA p r u e)\/(s.a=GA p r u e/\s.b=CT p r u)):SmOK p r (HL (BF p r L) u e s):=by
 have B:=(Xj S g.1 g.2 f).2.1;unfold HL;show SmOK p r (if AU p.W p.H u e=0 then _ else _);split;rotate_left
 .exact⟨h.ab,h.va,h.vb,h.ps,h.ls,λx hx=>by
   rcases Jt.1 hx with hx|hx
   .exact h.en x hx
   .rw[Jw.1 hx];exact g⟩
 rename_i j;show SmOK p r (if AF p.W p.H u e<u then _ else _);split
 .exact h
 rename_i b6;show SmOK p r (if AZ p u e=0 then _ else _);split
 .rename_i z;obtain⟨g1,k,l,m,n⟩:=c0y S g f j z;refine⟨h.ab,h.va,h.vb,λx hx=> ?_,h.ls,h.en⟩;rcases Jt.1 hx with hx|hx
  .exact h.ps x hx
  .rw[Jw]at hx;have hx:x=if CT p r u=s.b then⟨AF p.W p.H u e,u⟩else⟨u,AF p.W p.H u e⟩:=hx;rcases A with⟨i,c⟩|⟨i,c⟩
   .rw[J8 (by rw[c];exact λq=>B q.symm)]at hx;subst hx;exact⟨⟨g,g1⟩,⟨i.symm,k.trans c.symm⟩,⟨e,f,c.symm,j,rfl⟩,⟨e,f,l.trans i.symm,m,n.symm⟩⟩
   .rw[J7 c.symm]at hx;subst hx;exact⟨⟨g1,g⟩,⟨k.trans i.symm,c.symm⟩,⟨e,f,l.trans c.symm,m,n.symm⟩,⟨e,f,i.symm,j,rfl⟩⟩
 .rename_i z;obtain⟨g1,k,l,m,n⟩:=c1j S g f j z;refine⟨h.ab,h.va,h.vb,h.ps,λx hx=> ?_,h.en⟩;rcases Jt.1 hx with hx|hx
  .exact h.ls x hx
  .rw[Jw]at hx;have o:∀d:Int,(d=0\/d=1)->CW s d=CT p r u->Pj s d=GA p r u e->Wt p r s ⟨d,u,AF p.W p.H u e⟩/\Wt p r s ⟨d,AF p.W p.H u e,u⟩:=λd C w y=>
    ⟨⟨C,⟨g,g1⟩,⟨w.symm,k.trans w.symm⟩,⟨e,f,y.symm,j,rfl⟩,⟨e,f,l.trans y.symm,m,n.symm⟩⟩,
     ⟨C,⟨g1,g⟩,⟨k.trans w.symm,w.symm⟩,⟨e,f,l.trans y.symm,m,n.symm⟩,⟨e,f,y.symm,j,rfl⟩⟩⟩
   have hx:x=⟨if CT p r u=s.b then 1 else 0,if(BF p r L).ht.getD u.toNat 0<(BF p r L).ht.getD (AF p.W p.H u e).toNat 0 then u else AF p.W p.H u e,if(BF p r L).ht.getD u.toNat 0<(BF p r L).ht.getD (AF p.W p.H u e).toNat 0 then AF p.W p.H u e else u⟩:=hx;have t:Wt p r s ⟨if CT p r u=s.b then 1 else 0,u,AF p.W p.H u e⟩/\Wt p r s ⟨if CT p r u=s.b then 1 else 0,AF p.W p.H u e,u⟩:=by
    rcases A with⟨i,c⟩|⟨i,c⟩
    .rw[J8 (by rw[c];exact λq=>B q.symm)];exact o 0 (.inl rfl) (by simp[CW,i]) (by simp[Pj,c])
    .rw[J7 c.symm];exact o 1 (.inr rfl) (by simp[CW,c]) (by simp[Pj,i])
   rcases Classical.em ((BF p r L).ht.getD u.toNat 0<(BF p r L).ht.getD (AF p.W p.H u e).toNat 0)with v|v
   .rw[J7 v,J7 v]at hx;rw[hx];exact t.1
   .rw[J8 v,J8 v]at hx;rw[hx];exact t.2
theorem at_ok(S:SkOK p r L){u e:Int}(f:AQ p u)(i:0<=e/\e<3){T:List Sm}(h:∀s∈T,SmOK p r s):(∀s∈DT T (CT p r u) (GA p r u e),SmOK p r s)/\
 ∀s,BU s=IR (CT p r u) (GA p r u e)->(s.a=CT p r u/\s.b=GA p r u e)\/(s.a=GA p r u e/\s.b=CT p r u):=by
 have l:=(Xj S f.1 f.2 i).2.1;have g:=lohi (Ne.symm l);have j:=(Tw S f.1 f.2).2.2;have k:=(Xj S f.1 f.2 i).1;refine⟨λs hs=> ?_,λs hs=> ?_⟩
 .unfold DT at hs;split at hs
  .exact h s hs
  .rcases Jt.1 hs with hs|hs
   .exact h s hs
   .rw[Jw.1 hs];refine⟨g.1,?_,?_,λx hx=>by simp at hx,λx hx=>by simp at hx,λx hx=>by simp at hx⟩
    .rcases g.2 with⟨c,d⟩|⟨c,d⟩
     .show vC (Oh _ _);rw[c];exact j
     .show vC (Oh _ _);rw[c];exact k
    .rcases g.2 with⟨c,d⟩|⟨c,d⟩
     .show vC (OV _ _);rw[d];exact k
     .show vC (OV _ _);rw[d];exact j
 .obtain⟨c,d⟩:=c2h (t:=⟨Oh (CT p r u) (GA p r u e),OV (CT p r u) (GA p r u e),[],[],[]⟩) hs;rw[c,d];exact g.2
theorem mem_set{α:Type}{l:List α}{i:Nat}{x y:α}(h:y∈l.set i x):y=x\/y∈l:=by
 rcases Ly h with h|h
 .exact .inr h
 .exact .inl h
theorem f7g(S:SkOK p r L){u e:Int}(a:AQ p u)(b:0<=e/\e<3){T:List Sm}(h:∀s∈T,SmOK p r s):∀s∈GO (BF p r L) u e T,SmOK p r s:=by
 intro s hs;unfold GO at hs;rw[imS_of,f9n S a b]at hs;obtain⟨c,f⟩:=at_ok S a b h;have d:=Rr T (CT p r u) (GA p r u e);have g:=b4e d;rcases mem_set hs with rfl|hs
 .exact add_ok S a b (c _ (CP (LY d))) (f _ g)
 .exact c s hs
theorem XP(S:SkOK p r L):∀k,k<=3*AG p.W p.H->∀s∈EJ (BF p r L) k,SmOK p r s
 |0,_,s,hs=>by simp[EJ]at hs
 |k+1,hk,s,hs=>by have hN:=CF S.hs;exact f7g S (u:=((k/3:Nat):Int)) (e:=((k%3:Nat):Int)) ⟨Dx,Dx⟩ ⟨Dx,Dx⟩ (XP S k Dx) s hs
theorem d22(S:SkOK p r L){x y z:Int}{c:Cl}(hx:AQ p x)(a:VO p r x y c)(b:VO p r x z c):y=z:=by obtain⟨e,d,o1,_,rfl⟩:=a;obtain⟨e',f,o2,_,rfl⟩:=b;rw[g05 S hx.1 hx.2 d f (o1.trans o2.symm)]
theorem ps_inj(S:SkOK p r L){s:Sm}(h:SmOK p r s):∀x∈s.ps,∀y∈s.ps,Ou (HW L (AG p.W p.H)) x=Ou (HW L (AG p.W p.H)) y->x=y:=by intro x hx y g e;obtain⟨⟨c,a2⟩,⟨i,i2⟩,g1,_⟩:=h.ps x hx;obtain⟨⟨j,b2⟩,⟨k,j2⟩,d,_⟩:=h.ps y g;simp only[Ou,Ix]at e;have b:x.a=y.a:=f46 S c j (show CT p r x.a=CT p r y.a by rw[i,k]) e;rw[<-b]at d;have f:=d22 S c g1 d;cases x;cases y;simp only at b f;rw[b,f]
theorem ls_inj(S:SkOK p r L){s:Sm}(h:SmOK p r s):∀x∈s.ls,∀y∈s.ls,Pg (HW L (AG p.W p.H)) x=Pg (HW L (AG p.W p.H)) y->x=y:=by intro x hx y i e;obtain⟨_,⟨d,a2⟩,⟨j,i2⟩,g1,_⟩:=h.ls x hx;obtain⟨_,⟨k,b2⟩,⟨l,j2⟩,f,_⟩:=h.ls y i;simp only[Pg,Ix]at e;obtain⟨b,e⟩:=e;have c:x.a=y.a:=f46 S d k (show CT p r x.a=CT p r y.a by rw[j,l,b]) e;rw[<-c,<-b]at f;have g:=d22 S d g1 f;cases x;cases y;simp only at c g b;rw[c,g,b]
theorem d5t(T:List Sm)(x y:Cl):(DT T x y).length<=T.length+1:=by unfold DT;split<;>simp
def RD(s:Sm)(k:Nat):Prop:=s.ps.length<=k/\s.ls.length<=k/\s.en.length<=k
theorem d8a{b:Bd}{u e:Int}{s:Sm}{k:Nat}(h:RD s k):RD (HL b u e s) (k+1):=by
 unfold RD at*;unfold HL;repeat' split
 all_goals(try simp only[Iv])
 all_goals omega
theorem Tj(b:Bd):∀k,(EJ b k).length<=k/\∀s∈EJ b k,RD s k
 |0=>⟨Jf _,λs hs=>by simp[EJ]at hs⟩
 |k+1=>by
  obtain⟨h1,a⟩:=Tj b k;have c:∀s∈DT (EJ b k) (Dl b ((k/3:Nat):Int)) (EV b ((k/3:Nat):Int) ((k%3:Nat):Int)),RD s k:=by
   intro s hs;unfold DT at hs;split at hs
   .exact a s hs
   .rcases Jt.1 hs with hs|hs
    .exact a s hs
    .rw[Jw.1 hs];exact⟨Jj _,Jj _,Jj _⟩
  refine⟨?_,λs hs=> ?_⟩
  .show (GO _ _ _ _).length<=_;rw[b4b];have:=d5t (EJ b k) (Dl b ((k/3:Nat):Int)) (EV b ((k/3:Nat):Int) ((k%3:Nat):Int));omega
  .have hs:s∈GO b ((k/3:Nat):Int) ((k%3:Nat):Int) (EJ b k):=hs;unfold GO at hs;rcases mem_set hs with rfl|hs
   .exact d8a (c _ (CP (LY (Rr _ _ _))))
   .have:=c s hs;unfold RD at*;omega
theorem d4d(S:SkOK p r L){s:Sm}(h:SmOK p r s)(b:RD s 100000):c9d (BF p r L) s:=by
 have hN:=CF S.hs;refine⟨b,⟨λx hx=> ?_,λx hx=> ?_⟩,ps_inj S h,ls_inj S h⟩
 .have:=(h.ps x hx).1.1;unfold AQ at this;show 0<=x.a/\x.a<((HW L (AG p.W p.H)).length:Int);rw[Xg];omega
 .have:=(h.ls x hx).2.1.1;unfold AQ at this;show 0<=x.a/\x.a<((HW L (AG p.W p.H)).length:Int);rw[Xg];omega
end
section
open Go.Sort Go.Proofs Go.Shelf
def WE:AK
 | [.agg [.int .i64 a,.int .i64 b,.int .u8 c,.int .i64 d,.int .i64 e,.int .u8 f],.agg [.int .i64 i,.int .i64 j,.int .u8 g,.int .i64 k,.int .i64 l,.int .u8 h]]=>some ((AD .u8 c/\AD .u8 f)/\AD .u8 g/\AD .u8 h,.int .i64 (LM [FQ a b c i j g,FQ d e f k l h]))
 |_=>none
def FOf1:Fam:=⟨(Int×Int×Int×Int×Int×Int)×Int×Int×Int×Int×Int×Int,λ((a,b,c,d,e,f),i,j,g,k,l,h)=>[.agg [.int .i64 a,.int .i64 b,.int .u8 c,.int .i64 d,.int .i64 e,.int .u8 f],.agg [.int .i64 i,.int .i64 j,.int .u8 g,.int .i64 k,.int .i64 l,.int .u8 h]],
 λ((_,_,c,_,_,f),_,_,g,_,_,h)=>(AD .u8 c/\AD .u8 f)/\AD .u8 g/\AD .u8 h,λ((a,b,c,d,e,f),i,j,g,k,l,h)=>.int .i64 (LM [FQ a b c i j g,FQ d e f k l h])⟩
theorem pOf1:PS 107 WE:=by
 refine con [(100,Ro),(108,YA)] (by simpa using⟨b11,pOrL⟩) FOf1 (λ_ _=>none) WE ?_ ?_ Tryz.func107 Dy Dy Dy ?_
 .intro args pre s h g;unfold WE at h;split at h
  .rename_i a b c d e f l m j n o k;cases h;exact⟨((a,b,c,d,e,f),l,m,j,n,o,k),by simp[FOf1,BT,SV.le2,SV.le1,BM,SV.le0],g,rfl⟩
  .cases h
 .exact Bx
 .rintro⟨⟨a,b,c,d,e,f⟩,l,m,j,n,o,k⟩ g;replace g:(AD .u8 c/\AD .u8 f)/\AD .u8 j/\AD .u8 k:=g;refine X0a _ ?_;(repeat' first|constructor|intro h)<;>refine Lm ?_
  all_goals(first
   |exact⟨g.1.1,g.2.1⟩
   |exact⟨g.1.2,g.2.2⟩
   |rfl
   |exact⟨λi q=>match i,q with
    |0,_=>rfl
    |1,_=>rfl,Dx⟩
   |omega
   |skip)
def OH(k:Ky):List Int:=BP k.a++BP k.b
theorem d5e{x y:Ky}(h:OH x=OH y):x=y:=by simp only[OH,BP,Mh,Nd,Ix]at h;cases x;cases y;simp only at h;rw[Cl.ext' h.2.1 h.1 h.2.2.1,Cl.ext' h.2.2.2.2.1 h.2.2.2.1 h.2.2.2.2.2]
theorem c2r:∀(a b c d:List Int),a.length=b.length->BB (a++c) (b++d)=if BB a b=0 then BB c d else BB a b
 | [],[],c,d,_=>by simp[BB]
 |x::a,y::b,c,d,h=>by
  by_cases e:x=y
  .simp only[Mh,BB,e,Kp];exact c2r a b c d E4
  .have f:CY x y≠0:=by unfold CY;split<;>(try split)<;>omega
   simp[BB,e,f]
 | [],_::_,_,_,h=>E8
 |_::_,[],_,_,h=>E8
theorem g1j(x y:Ky):LM [FQ x.a.x x.a.y x.a.q y.a.x y.a.y y.a.q,FQ x.b.x x.b.y x.b.q y.b.x y.b.y y.b.q]=BB (OH x) (OH y):=by
 rw[Sw,Sw,OH,OH,c2r (BP x.a) (BP y.a) (BP x.b) (BP y.b) rfl];simp only[LM];split
 .split<;>simp_all
 .rfl
def kyQ(k:Ky):Prop:=AD .u8 k.a.q/\AD .u8 k.b.q
def b9c:KV:=λ_ b n g a=>match a with
 | [.clo f []]=>if f=107/\b=6 then some (GT.is n g/\n<=100000/\(∀x∈GT.lst n g,kyQ x),GT.row (GR OH (GT.lst n g)),false)else none
 |_=>none
theorem g11:ES 106 b9c:=by
 refine g1p GT Tryz.sortKey rfl ⟨_,Tryz.func106,Dy,Dy⟩ (λw=>Tryz.isAgg193 w) (λw=>Tryz.sizeOf193 w) (λ_=>rfl) (λx s hs=> ?_) WE pOf1 (enters_of Tryz.func107 Dy rfl) b9c ?_
 .simp[GT]at hs;rcases hs with rfl|rfl|rfl|rfl|rfl|rfl<;>exact⟨_,_,rfl⟩
 .intro T sz n g rest pre g' r h;unfold b9c at h;split at h;rotate_left
  .cases h
  rename_i f;split at h;rotate_left
  .cases h
  rename_i d;obtain⟨rfl,rfl⟩:=d;cases h;refine⟨rfl,rfl,[],OH,rfl,λc=>⟨c.1,c.2.1,λx hx y i=> ?_,λx _ y _ e=>d5e e,rfl⟩⟩;refine⟨(AD .u8 x.a.q/\AD .u8 x.b.q)/\AD .u8 y.a.q/\AD .u8 y.b.q,?_,c.2.2 x hx,c.2.2 y i⟩;show WE [.agg [.int .i64 x.a.x,.int .i64 x.a.y,.int .u8 x.a.q,.int .i64 x.b.x,.int .i64 x.b.y,.int .u8 x.b.q],.agg [.int .i64 y.a.x,.int .i64 y.a.y,.int .u8 y.a.q,.int .i64 y.b.x,.int .i64 y.b.y,.int .u8 y.b.q]]=_;simp only[WE,g1j]
def KP(s:Sm):List SV:=[.int .i64 s.a.x,.int .i64 s.a.y,.int .u8 s.a.q,.int .i64 s.b.x,.int .i64 s.b.y,.int .u8 s.b.q,.sl 2 s.ps.length (CE.row s.ps) none,.sl 3 s.ls.length (BR.row s.ls) none,.sl 1 s.en.length (AC.row s.en) none]
def smRd:List SV->Sm
 | [.int _ a,.int _ b,.int _ c,.int _ d,.int _ e,.int _ f,x,y,z]=>⟨⟨a,b,c⟩,⟨d,e,f⟩,match CE.as x with|some (n,f)=>CE.lst n f|none=>[],match BR.as y with|some (n,f)=>BR.lst n f|none=>[],match AC.as z with|some (n,f)=>AC.lst n f|none=>[]⟩
 |_=>BD
theorem f6e(s:Sm):smRd (KP s)=s:=by have a:CE.as (.sl 2 s.ps.length (CE.row s.ps) none)=some (s.ps.length,CE.row s.ps):=rfl;have b:BR.as (.sl 3 s.ls.length (BR.row s.ls) none)=some (s.ls.length,BR.row s.ls):=rfl;have c:AC.as (.sl 1 s.en.length (AC.row s.en) none)=some (s.en.length,AC.row s.en):=rfl;simp only[smRd,KP,a,b,c,RT.lst_row]
def DD:RT Sm:=⟨9,KP,smRd,BD,f6e⟩
def EP(p:Pt)(r:Mv)(L:List Stk):List Sm:=if CX p r L=0 then
    (GR OH ((EJ (BF p r L) (3*AG p.W p.H)).map IP)).map λk=>Kl (BF p r L) ((EJ (BF p r L) (3*AG p.W p.H)).getD (CQ (EJ (BF p r L) (3*AG p.W p.H)) (BU (sN k.a k.b))) BD)
 else []
end
def rSeOf(p:Pt)(r:Mv)(L:List Stk):SV:=.tup [.sl 9 (EP p r L).length (DD.row (EP p r L)) none,.int .i64 (CX p r L)]
def d92:AK
 | [x,y,z]=>match Qr [x,y],LI z with
   |some q,some s=>some (q.1/\s.1/\(∀t∈s.2,AD .u8 t.c.q)/\(Ao s.2).length<=100000,rSeOf q.2.1 q.2.2 s.2)
   |_,_=>none
 |_=>none
def FSeOf:Fam:=⟨Pt×Mv×List Stk,λ(p,r,L)=>[ID p,OL r,FN L],λ(p,r,L)=>prOK p r/\EG L,λ(p,r,L)=>rSeOf p r L⟩
def Qy(L:List Stk)(i k:Nat):List (Int×Nat):=Rv (L.take i)++((L.getD i AA.d).l.zipIdx).take k
def MB(L:List Stk)(n i k:Nat):List Int:=(Qy L i k).foldl RE (List.replicate n 0)
theorem Yk(L:List Stk)(n i k:Nat):(MB L n i k).length=n:=by simp[MB,b8u]
theorem c7a(L:List Stk)(i:Nat):Qy L i 0=Rv (L.take i):=by simp[Qy]
theorem d83{L:List Stk}{i:Nat}(hi:i<L.length):Qy L i (L.getD i AA.d).l.length=Qy L (i+1) 0:=by
 rw[c7a];have:L.take (i+1)=L.take i++[L.getD i AA.d]:=by rw[Mb];simp[hi]
 rw[this];unfold Qy Rv;rw[List.flatMap_append];have e:List.take (L.getD i AA.d).l.length (L.getD i AA.d).l.zipIdx=(L.getD i AA.d).l.zipIdx:=L9 Dz;rw[e];simp
theorem f13{L:List Stk}{n i k:Nat}(a:k<(L.getD i AA.d).l.length):MB L n i (k+1)=(MB L n i k).set ((L.getD i AA.d).l.getD k 0).toNat (k:Int):=by
 have:Qy L i (k+1)=Qy L i k++[((L.getD i AA.d).l.getD k 0,k)]:=by unfold Qy;rw[Mb,<-Ma];congr 1;rw[List.getElem?_zipIdx,J6 a,J5 (l:=(L.getD i AA.d).l),J6 a];simp
 unfold MB;rw[this,List.foldl_append];rfl
theorem g0f(L:List Stk)(n:Nat):MB L n L.length 0=HW L n:=by unfold MB HW;rw[c7a,L9 (Jf _)]
def Yh(p:Pt)(r:Mv)(b:List Int)(S:List Sm)(ks:SV)(a:List Blk):List Blk:=.cells 29 [.int .i64 p.W,.int .i64 p.H,.sl 3 p.l.length (DU p.l) none]::.cells 31 [.int .u8 r.t,.int .i64 r.x,.int .i64 r.y]::.row 3 1 b.length (AC.row b) none::
 .pmap (.ints [.i64,.i64,.u8,.i64,.i64,.u8]) 5 (DR S) (CQ S)::
 .cells 188 [.int .i64 p.W,.int .i64 p.H,.sl 3 p.l.length (DU p.l) none,.sl 3 (BC p r).length (AE.row (BC p r)) none,.sl 3 (CC p r).length (DE.row (CC p r)) none,.osl 2,.omp 3,ks]::
 .fam 156 [(229,2),(158,3),(3,1)] S.length none (λi=>JX (S.getD i BD))::a
theorem d7s{L:List Stk}{n i:Nat}(hi:i<L.length):MB L n i (L.getD i AA.d).l.length=MB L n (i+1) 0:=by unfold MB;rw[d83 hi]
theorem c4r{l:List Int}{m:Nat}{x:Int}(h:m<l.length)(j:Nat):Bl (decide (j=m)) [SV.int .i64 x] (AC.row l j)=AC.row (l.set m x) j:=by
 by_cases e:j=m
 .rw[Jr e,b15 AC h e];rfl
 .rw[Jq e,b3g AC e];rfl
theorem d5f(S:List Sm):GT.lst S.length (JZ S)=S.map IP:=by have h:JZ S=GT.row (S.map IP):=Nh (d6v S);have:=RT.lst_row GT (S.map IP);rw[h];simpa using this
theorem d9d(s:Sm):BU (sN (IP s).a (IP s).b)=BU s:=rfl
theorem b6d(b:Bd):∀k,((EJ b k).map BU).Nodup
 |0=>N6
 |k+1=>by
  have a:=b6d b k;show ((GO b _ _ _).map BU).Nodup;rw[b45];unfold DT;split
  .exact a
  .rename_i h;rw[Lq];refine Mm.2 ⟨a,Dz,λx hx y c e=> ?_⟩;simp only[Kr,List.map_nil,Jw]at c;subst e;subst c;apply h;rw[TX];exact Jp.2 ⟨_,hx,by simp[IR]⟩
def IA(b:Bd)(S:List Sm)(K:List Ky):Nat->List Sm
 |0=>S
 |i+1=>(IA b S K i).set (CQ (IA b S K i) (BU (sN (K.getD i GT.d).a (K.getD i GT.d).b))) (Kl b ((IA b S K i).getD (CQ (IA b S K i) (BU (sN (K.getD i GT.d).a (K.getD i GT.d).b))) BD))
def FR(p:Pt)(r:Mv)(L:List Stk):List Sm:=EJ (BF p r L) (3*AG p.W p.H)
def DW(p:Pt)(r:Mv)(L:List Stk):List Ky:=GR OH ((FR p r L).map IP)
section
variable{b:Bd}{S:List Sm}{K:List Ky}
def qK(K:List Ky)(i:Nat):List Int:=BU (sN (K.getD i GT.d).a (K.getD i GT.d).b)
theorem b4y:∀i,(IA b S K i).map BU=S.map BU
 |0=>rfl
 |i+1=>by show ((IA b S K i).set _ _).map BU=_;rw[b27 _ _ _ (c96 b _),b4y i]
theorem c8h(i:Nat):(IA b S K i).length=S.length:=by simpa using Mf List.length (b4y (b:=b) (S:=S) (K:=K) i)
theorem f06(i:Nat)(q:List Int):DR (IA b S K i) q=DR S q:=by rw[TX,TX,b4y]
theorem Yj(i:Nat)(q:List Int):CQ (IA b S K i) q=CQ S q:=by rw[WC,WC,b4y]
theorem b91(a:∀i,i<K.length->DR S (qK K i)=true)(d:∀i j,i<j->j<K.length->qK K i≠qK K j):∀i j,i<=j->j<K.length->(IA b S K i).getD (CQ S (qK K j)) BD=S.getD (CQ S (qK K j)) BD
 |0,j,_,_=>rfl
 |i+1,j,h1,c=>by
  show ((IA b S K i).set (CQ (IA b S K i) (qK K i)) _).getD _ _=_;have f:=a i Dx;have k:CQ (IA b S K i) (qK K i)<(IA b S K i).length:=by rw[Yj,c8h];exact LY f
  rw[b1a k,Yj,J8,b91 a d i j Dx c];intro e;have l:=b4e f;have g:=b4e (a j c);rw[e]at g;exact d i j Dx c (l.symm.trans g)
end
theorem b75(b:Bd){u e:Nat}(he:e<3):EJ b (3*u+e+1)=GO b (u:Int) (e:Int) (EJ b (3*u+e)):=by show GO b _ _ _=_;rw[show (3*u+e)/3=u from Dx,show (3*u+e)%3=e from Dx]
section
variable{p:Pt}{r:Mv}{L:List Stk}
theorem c6v{k:Ky}:k∈DW p r L↔∃s∈FR p r L,IP s=k:=by unfold DW;rw[Qv,Js]
theorem VH{i:Nat}(h:i<(DW p r L).length):DR (FR p r L) (qK (DW p r L) i)=true:=by obtain⟨s,hs,e⟩:=c6v.1 (CP (d:=GT.d) h);unfold qK DR;rw[<-e];exact Jp.2 ⟨s,hs,by simp[d9d]⟩
theorem qK_inj{x y:Ky}(h:BU (sN x.a x.b)=BU (sN y.a y.b)):x=y:=by obtain⟨c,d⟩:=c2h h;cases x;cases y;simp only at c d;rw[c,d]
theorem d4w{i j:Nat}(d:i<j)(c:j<(DW p r L).length):qK (DW p r L) i≠qK (DW p r L) j:=by
 have f:(DW p r L).Nodup:=by
  have g:((FR p r L).map IP).Nodup:=by
   have:=b6d (BF p r L) (3*AG p.W p.H);have e:((FR p r L).map IP).map (λk=>BU (sN k.a k.b))=(FR p r L).map BU:=by rw[Mq];rfl
   have c:(((FR p r L).map IP).map (λk=>BU (sN k.a k.b))).Nodup:=by rw[e];exact this
   exact(L2.1 c).imp (λl e=>l (by rw[e]))
  exact(Ss _ _).nodup_iff.2 g
 intro e;have:=qK_inj e;rw[J5,J5,J6 Dx,J6 c]at this;exact(Kg.1 (show List.Pairwise (λx y=>x≠y) _ from f)) i j Dx c d this
theorem f9u(S:SkOK p r L)(a:prOK p r){k u e:Nat}(hk:k<=3*AG p.W p.H)(jr:u<AG p.W p.H)(he:e<3):bdIn (BF p r L) (EJ (BF p r L) k) (u:Int) (e:Int):=by
 have hN:=CF S.hs;have hs:=Tj (BF p r L) k;refine⟨a.1,⟨Dx,Dx⟩,⟨Dx,?_,?_,?_⟩,λb=> ?_,c22 a.2.1,λc f=> ?_,Dx,λs h=> ?_⟩
 .show (u:Int)<((BC p r).length:Int);rw[S.P.pl];omega
 .show (u:Int)<((CC p r).length:Int);rw[S.P.il];omega
 .show (u:Int)<((HW L (AG p.W p.H)).length:Int);rw[Xg];omega
 .have:=(GH S.hs (i:=(u:Int)) (e:=(e:Int)) Dx Dx ⟨Dx,Dx⟩ b).1;show 0<=AF p.W p.H u e/\AF p.W p.H u e<((HW L (AG p.W p.H)).length:Int);rw[Xg];omega
 .obtain⟨i,g,rfl⟩:=NH (d:=DE.d) (show c∈CC p r from f);have j:i<AG p.W p.H:=by rw[<-S.P.il];exact g
  have:=(S.P.im i j).2.2.2;show 0<=_/\_<=255;omega
 .have:=hs.2 s h;unfold RD at this;omega
theorem seam_q(S:SkOK p r L){k:Nat}(c:k<=3*AG p.W p.H):∀x∈(EJ (BF p r L) k).map IP,kyQ x:=by intro x hx;obtain⟨s,hs,rfl⟩:=Js.1 hx;have h:=XP S k c s hs;have d:=h.va.2.2;have e:=h.vb.2.2;exact⟨⟨d.1,by show s.a.q<=255;omega⟩,⟨e.1,by show s.b.q<=255;omega⟩⟩
theorem b4q:(DW p r L).length=(FR p r L).length:=by simp[DW,RV]
theorem d23(h:CX p r L=0):EP p r L=(DW p r L).map λk=>Kl (BF p r L) ((FR p r L).getD (CQ (FR p r L) (BU (sN k.a k.b))) BD):=by unfold EP;rw[J7 h];rfl
theorem c44(h:CX p r L=0){i:Nat}(hi:i<(DW p r L).length):(EP p r L).getD i BD=Kl (BF p r L) ((FR p r L).getD (CQ (FR p r L) (qK (DW p r L) i)) BD):=by rw[d23 h,J5,Jz,J6 hi];simp only[Kh,It,qK,J6 hi]
theorem b9i(h:CX p r L=0):(EP p r L).length=(DW p r L).length:=by rw[d23 h,K8]
end
def ISeOf:Pt×Mv×List Stk->Nat->Option Inv
 |(p,r,L),8=>some {β:=Nat,ok:=λi=>i<=L.length,st:=λi=>⟨[⟨54,none,.int .i64 i⟩,⟨53,none,.int .i64 L.length⟩,⟨52,none,.sl 4 L.length (AA.row L) none⟩,⟨9,none,.own 4 0⟩],Yh p r (MB L (AG p.W p.H) i 0) [] (.con (.slice none 0 0)) []⟩,μ:=λi=>L.length-i,sub:=λi=>some fun|11=>some {β:=Nat,ok:=λk=>k<=(L.getD i AA.d).l.length,st:=λk=>⟨[⟨61,none,.int .i64 k⟩,⟨60,none,.int .i64 (L.getD i AA.d).l.length⟩,⟨59,none,.sl 1 (L.getD i AA.d).l.length (AC.row (L.getD i AA.d).l) none⟩,⟨54,none,.int .i64 i⟩,⟨53,none,.int .i64 L.length⟩,⟨52,none,.sl 4 L.length (AA.row L) none⟩,⟨9,none,.own 4 0⟩],Yh p r (MB L (AG p.W p.H) i k) [] (.con (.slice none 0 0)) []⟩,μ:=λk=>(L.getD i AA.d).l.length-k}|_=>none}
 |(p,r,L),17=>some {β:=Nat,ok:=λu=>u<=AG p.W p.H,st:=λu=>⟨[⟨80,none,.int .i64 u⟩,⟨79,none,.int .i64 (AG p.W p.H)⟩,⟨9,none,.own 4 0⟩],Yh p r (HW L (AG p.W p.H)) (EJ (BF p r L) (3*u)) (.osl 6) [.row 193 6 (EJ (BF p r L) (3*u)).length (JZ (EJ (BF p r L) (3*u))) none]⟩,μ:=λu=>AG p.W p.H-u,nl:=[.cell 4 7 193 6],sub:=λu=>some fun|20=>some {β:=Nat,ok:=λe=>e<=3,st:=λe=>⟨[⟨83,none,.int .u8 e⟩,⟨14,none,.int .i64 u⟩,⟨80,none,.int .i64 u⟩,⟨79,none,.int .i64 (AG p.W p.H)⟩,⟨9,none,.own 4 0⟩],Yh p r (HW L (AG p.W p.H)) (EJ (BF p r L) (3*u+e)) (.osl 6) [.row 193 6 (EJ (BF p r L) (3*u+e)).length (JZ (EJ (BF p r L) (3*u+e))) none]⟩,μ:=λe=>3-e}|_=>none}
 |(p,r,L),28=>some {β:=Nat,ok:=λi=>i<=(DW p r L).length,st:=λi=>⟨[⟨108,none,.int .i64 i⟩,⟨107,none,.int .i64 (DW p r L).length⟩,⟨106,none,.osl 6⟩,⟨16,none,.osl 7⟩,⟨9,none,.own 4 0⟩],Yh p r (HW L (AG p.W p.H)) (IA (BF p r L) (FR p r L) (DW p r L) i) (.osl 6) [.row 193 6 (DW p r L).length (GT.row (DW p r L)) none,.row 156 9 (DW p r L).length (λj=>KP (upto (λj=>(EP p r L).getD j BD) (λ_=>BD) i j)) none]⟩,μ:=λi=>(DW p r L).length-i}
 |_,_=>none
def smCs(s:Sm):List SV:=[.int .i64 s.a.x,.int .i64 s.a.y,.int .u8 s.a.q,.int .i64 s.b.x,.int .i64 s.b.y,.int .u8 s.b.q,.sl 2 s.ps.length (CE.row s.ps) (some s.ps.length),.sl 3 s.ls.length (BR.row s.ls) (some s.ls.length),.sl 1 s.en.length (AC.row s.en) (some s.en.length)]
theorem f9p{A:Nat->Sm}{B:Nat->Sm}{i:Nat}{s:Sm}(hs:A i=s)(j:Nat):Fl (Bl (decide (j=i)) (smCs s) (KP (upto A B i j))) (KP (upto A B (i+1) j)):=by
 by_cases e:j=i
 .subst e;rw[Jr rfl,show upto A B (j+1) j=s by simp[upto,hs]];generalize upto A B j j=t;right;simp[smCs,KP,Bl,Rt,Yn,SV.lf,HQ]
 .rw[Jq e,show upto A B (i+1) j=upto A B i j by unfold upto;by_cases h:j<i;simp[h,show j<i+1 from Dx];simp[h,show¬j<i+1 from Dx]];left;rfl
theorem g0e:Fl [.int .i64 0,.int .i64 0,.int .u8 0,.int .i64 0,.int .i64 0,.int .u8 0,.con (.slice none 0 0),.con (.slice none 0 0),.con (.slice none 0 0)] (KP BD):=by right;simp[KP,BD,Yn,SV.lf,HQ]
theorem pSeOf:PS 74 d92:=by
 refine LL {l:=[(85,Wi),(103,VN),(104,c50),(71,XE)],x:=[(106,b9c)],h:=[(105,c61),(109,b4m)],c2:=true,gr:=λid=>bif Nat.beq id 4 then [.newFam 3 156 [(229,2),(158,3),(3,1)]]else []} ⟨by simpa using⟨c28,d36,f81,c45⟩,by simpa using g11,by simpa using⟨pBMeet,f2d⟩⟩ FSeOf ISeOf d92 ?_ ?_ Tryz.func74 Dy Dy Dy ?_
 .intro args pre s h hp;unfold d92 at h;split at h
  .rename_i x y z;split at h
   .rename_i q t w B;cases h;obtain⟨q,p,r⟩:=q;obtain⟨u,L⟩:=t;obtain⟨a1,a2⟩:=c07 w hp.1;obtain⟨b1,b2⟩:=Py B hp.2.1;exact Dp
   .cases h
  .cases h
 .exact Bz
 .rintro⟨p,r,L⟩ ⟨c8,cd⟩;have hl:=cd.1.1;have n:CX p r L=0->SkOK p r L:=λh=>Yg h c8.2.1 cd.2.1;have I:CX p r L=0->(AG p.W p.H:Int)=4*p.W*p.H/\AG p.W p.H<=1024/\4<=AG p.W p.H:=λh=>CF (n h).hs;have M:CX p r L=0->DS p.W p.H=(AG p.W p.H:Int):=λh=>by rw[(I h).1];simp[DS,(n h).hs]
  have Q:CX p r L≠0->EP p r L=[]:=λh=>by unfold EP;rw[if_neg h]
  refine X0a _ ?_;(repeat' first|constructor|intro h)<;>refine Lm ?_
  all_goals(try simp only[CI,RT.lst_row,b0i,YQ]at*)
  all_goals(first
   |exact B4
   |exact Be
   |exact λ_=>Ja
   |rfl
   |(rw[Q E2];rfl)
   |(have:=M E2;have:=I E2;refine⟨Dx,Dx,Rs Dy Dx Dx,Dx⟩)
   |skip)
  have g:CX p r L=0:=E2;have c0:=M g;have n0:=I g;refine⟨(0:Nat),Jj _,?_,?_⟩
  .refine X0a _ ?_;(repeat' first|constructor|intro h)<;>refine Lm ?_
   all_goals(try simp only[]at*)
   all_goals(first
    |exact Ab
    |(rw[Yk];omega)
    |exact Ai
    |(intro j hj;show [SV.int .i64 0]=AC.sv _;rw[show MB L (AG p.W p.H) 0 0=List.replicate (AG p.W p.H) 0 from rfl];simp only[J5,List.getElem?_replicate];split<;>rfl)
    |skip)
  .intro i m;replace m:i<=L.length:=m;have hg:=Su cd.1 i;have J:i<L.length->∀v∈(L.getD i AA.d).l,0<=v/\v<(AG p.W p.H:Int):=λm v C=>by
    have:=(n g).rg v (Mi.2 ⟨_,CP m,C⟩);omega
   refine X0a _ ?_;(repeat' first|constructor|intro h)<;>refine Lm ?_
   all_goals(try simp only[If]at*)
   all_goals(first|omega|skip)
   .have f:i<L.length:=Dx;have J:=J f;refine⟨(0:Nat),Jj _,?_,?_⟩
    .refine X0a _ ?_;(repeat' first|constructor|intro h)<;>refine Lm ?_
     all_goals first|exact Ab|exact Ai|skip
    .intro k o;replace o:k<=(L.getD i AA.d).l.length:=o;have C:k<(L.getD i AA.d).l.length->0<=(L.getD i AA.d).l.getD k 0/\(L.getD i AA.d).l.getD k 0<(AG p.W p.H:Int):=λh=>J _ (CP h);have N:=Yk L (AG p.W p.H) i k;refine X0a _ ?_;(repeat' first|constructor|intro h)<;>refine Lm ?_
     all_goals(try simp only[If]at*)
     all_goals(first
      |exact Ak
      |(have:=C Dx;show 0<=_/\_<((MB L (AG p.W p.H) i k).length:Int);rw[N];exact this)
      |(have:=C Dx;show ((L.getD i AA.d).l.getD k 0).toNat<_;rw[N];omega)
      |skip)
     .have F:k<(L.getD i AA.d).l.length:=Dx;have hvv:=C F;refine⟨k+1,by show k+1<=_;omega,F9,?_⟩;refine X0a _ ?_;(repeat' first|constructor|intro h)<;>refine Lm ?_
      all_goals(first
       |exact Ab
       |(rw[Yk,Yk])
       |exact Ai
       |(intro j hj
         rw[f13 F];have G:((L.getD i AA.d).l.getD k 0).toNat<(MB L (AG p.W p.H) i k).length:=by rw[Yk];omega
         exact c4r G j)
       |skip)
     .have F:k=(L.getD i AA.d).l.length:=Dx;subst F;refine⟨i+1,Ec,Ea,?_⟩;rw[d7s f];refine X0a _ ?_;(repeat' first|constructor|intro h)<;>refine Lm ?_
      all_goals(first
       |exact Ab
       |exact Ai
       |skip)
   .have f:i=L.length:=Dx;subst f;refine⟨(0:Nat),Jj _,?_,?_⟩
    .rw[g0f];refine X0a _ ?_;(repeat' first|constructor|intro h)<;>refine Lm ?_
     all_goals first|exact Ab|exact Ai|(rw[Xg])|skip
    .intro u O;replace O:u<=AG p.W p.H:=O;refine X0a _ ?_;(repeat' first|constructor|intro h)<;>refine Lm ?_
     all_goals(try simp only[If]at*)
     all_goals(first
      |exact Ak
      |skip)
     .have E:u<AG p.W p.H:=Dx;refine⟨(0:Nat),Jj _,?_,?_⟩
      .refine X0a _ ?_;(repeat' first|constructor|intro h)<;>refine Lm ?_
       all_goals first|exact Ab|exact Bf|skip
      .intro e P;replace P:e<=3:=P;refine X0a _ ?_;(repeat' first|constructor|intro h)<;>refine Lm ?_
       all_goals(try simp only[If]at*)
       all_goals(first
        |exact A4
        |skip)
       .simp only[CI,RT.lst_row,Wp];refine⟨⟨⟨⟨Do _,c8.1.1⟩,RT.is_row AE _,RT.is_row DE _,RT.is_row AC _⟩,Ja,λ_ _=>Ja,λ_=>Ja,λ_ _=>Ja,λi m=> ?_⟩,f9u (n g) c8 Dx E Dx⟩;rw[b4k];exact UA _
       .simp only[CI,RT.lst_row,Wp];refine⟨e+1,by show e+1<=3;omega,Gj,?_⟩;have hs':EJ (BF p r L) (3*u+(e+1))=GO (BF p r L) (u:Int) (e:Int) (EJ (BF p r L) (3*u+e)):=b75 (BF p r L) Dx;revert hs';generalize EJ (BF p r L) (3*u+(e+1))=T;rintro rfl;exact X1a
       .have K:e=3:=Dx;subst K;refine⟨u+1,by show u+1<=_;omega,by show _-(u+1)<_-u;omega,?_⟩;exact X1a
     .have E:u=AG p.W p.H:=Dx;subst E;rw[d5f];have:=(Tj (BF p r L) (3*AG p.W p.H)).1;exact⟨λ_ _=>rfl,Dx,seam_q (n g) (Jf _)⟩
     .have:=(Tj (BF p r L) (3*u)).1;refine⟨Dx,Dx,Rs Dy Dx Dx,Dx⟩
     .have E:u=AG p.W p.H:=Dx;subst E;rw[show EJ (BF p r L) (3*AG p.W p.H)=FR p r L from rfl,d5f,<-b4q,show GR OH (List.map IP (FR p r L))=DW p r L from rfl];refine⟨(0:Nat),Jj _,?_,?_⟩
      .refine X0b _ ?_;(repeat' first|constructor|intro h)<;>refine Lm ?_
       all_goals(first
        |exact Ab
        |exact Bf
        |exact A5
        |exact λ_ _=>g0e
        |exact b4q
        |omega
        |skip)
      .intro i m;replace m:i<=(DW p r L).length:=m;refine X0b _ ?_;(repeat' first|constructor|intro h)<;>refine Lm ?_
       all_goals(try simp only[If]at*)
       all_goals(first
        |omega
        |(simp only[AD];have:=@b4q p r L;have:=(Tj (BF p r L) (3*AG p.W p.H)).1;have:(FR p r L).length=(EJ (BF p r L) (3*AG p.W p.H)).length:=rfl;omega)
        |(show i<(DW p r L).length;omega)
        |skip)
       .have f:i<(DW p r L).length:=Dx;have o:=VH f;simp only[CI,RT.lst_row,Wp];refine⟨⟨⟨⟨Do _,c8.1.1⟩,RT.is_row AE _,RT.is_row DE _,RT.is_row AC _⟩,RT.is_row GT _,λ_=>Ja,λ_ _=>Ja,λj hj=> ?_⟩,?_,?_,?_⟩
        .rw[b4k];exact UA _
        .show DR (IA (BF p r L) (FR p r L) (DW p r L) i) (qK (DW p r L) i)=true;rw[f06];exact o
        .show CQ (IA (BF p r L) (FR p r L) (DW p r L) i) (qK (DW p r L) i)<(IA (BF p r L) (FR p r L) (DW p r L) i).length;rw[Yj,c8h];exact LY o
        .show c9d (BF p r L) ((IA (BF p r L) (FR p r L) (DW p r L) i).getD (CQ (IA (BF p r L) (FR p r L) (DW p r L) i) (qK (DW p r L) i)) BD);rw[Yj,b91 (λj hj=>VH hj) (λa b w B=>d4w w B) i i (Jf _) f];have G:=CP (d:=BD) (LY o);have hz:=(Tj (BF p r L) (3*AG p.W p.H)).2 _ G;refine d4d (n g) (XP (n g) _ (Jf _) _ G) ?_;unfold RD at*;omega
       .have f:i<(DW p r L).length:=Dx;have o:=VH f;have R:(EP p r L).getD i BD=Kl (BF p r L) ((IA (BF p r L) (FR p r L) (DW p r L) i).getD (CQ (IA (BF p r L) (FR p r L) (DW p r L) i) (qK (DW p r L) i)) BD):=by
         rw[c44 g f,Yj,b91 (λj hj=>VH hj) (λa b w B=>d4w w B) i i (Jf _) f]
        simp only[CI,RT.lst_row,Wp];refine⟨i+1,Ec,Ea,?_⟩;refine X0b _ ?_;(repeat' first|constructor|intro h)<;>refine Lm ?_
        all_goals(first
         |exact Ab
         |exact Bf
         |exact A5
         |exact λj _=>f9p (A:=λj=>(EP p r L).getD j BD) R j
         |omega
         |skip)
       .exact(b9i g).symm
       .intro j hj;left;have:i=(DW p r L).length:=Dx;subst this;show KP (upto _ _ _ j)=KP _;rw[b8j _ _ hj];rfl
def asSm:SV->Option (Prop×Sm)
 |.agg [.int .i64 a,.int .i64 b,.int .u8 c,.int .i64 d,.int .i64 e,.int .u8 f,x,y,z]=>match CE.as x,BR.as y,AC.as z with
  |some u,some v,some w=>some (CE.is u.1 u.2/\BR.is v.1 v.2/\AC.is w.1 w.2,⟨⟨a,b,c⟩,⟨d,e,f⟩,CE.lst u.1 u.2,BR.lst v.1 v.2,AC.lst w.1 w.2⟩)
  |_,_,_=>none
 |_=>none
theorem d72{x:SV}{q:Prop}{s:Sm}(h:asSm x=some (q,s))(g:q):x.le2 (.agg (KP s)):=by
 unfold asSm at h;split at h
 .rename_i a b c d e f x y z;split at h
  .rename_i u v w i j k;cases h;obtain⟨l,m,n⟩:=g;have o:=CE.as_le i l;have r:=BR.as_le j m;have t:=AC.as_le k n;refine⟨E3,E3,E3,E3,E3,E3,o,r,t,Ja⟩
  .cases h
 .cases h
def d5r(l:List Int)(g:Bool):List Blk:=[.cells 37 [.sl 1 l.length (AC.row l) none],.cells 4 [.bool g]]
def hSp1:HK:=λa own=>match a,own with
 | [.int .i64 v,.own 0 0,.own 1 0],[.cells b [x],.cells c [.bool g]]=>if b=37/\c=4 then(AC.as x).map λq=>⟨AC.isL q.1 q.2/\q.1<=100000,.int .i64 (BV (AC.lst q.1 q.2) v),d5r (AC.lst q.1 q.2) (g&&decide (0<=BV (AC.lst q.1 q.2) v)),[]⟩else none
 |_,_=>none
def FSp1:FamH:=⟨(Int×List Int)×Bool,λ((v,_),_)=>[.int .i64 v,.own 0 0,.own 1 0],λ((_,l),g)=>d5r l g,λ((_,l),_)=>l.length<=100000,λ((v,l),_)=>.int .i64 (BV l v),λ((v,l),g)=>d5r l (g&&decide (0<=BV l v)),[]⟩
theorem pSp1:HS 150 hSp1:=by
 refine FU {l:=[(151,b98)]} ⟨by simpa using g17,Dz,Dz⟩ FSp1 (λ_ _=>none) hSp1 ?_ ?_ ?_ Tryz.func150 Dy Dy Dy ?_
 .intro args own r h a;unfold hSp1 at h;split at h
  .rename_i v T1 x T2 g;split at h
   .rename_i b;obtain⟨rfl,rfl⟩:=b;simp only[Jc]at h;obtain⟨⟨n,f⟩,hx,rfl⟩:=h;have c:=AC.as_leL hx a.1;refine⟨((v,AC.lst n f),g),⟨E6,E6,E6,Ja⟩,rfl,⟨⟨Eg,c,Ja⟩,⟨Eg,E3,Ja⟩,Ja⟩,by show (AC.lst n f).length<=100000;rw[RT.lst_length];exact a.2,rfl,rfl,rfl⟩
   .cases h
  .cases h
 .exact Bz
 .exact Cf
 .rintro⟨⟨v,l⟩,g⟩ μ a;replace a:l.length<=100000:=a;refine X0a _ ?_;(repeat' first|constructor|intro h)<;>refine Lm ?_
  all_goals(try simp only[RT.lst_row]at*)
  all_goals(first
   |exact⟨RT.isL_row AC _,a⟩
   |exact A2
   |skip)
theorem IE{α:Type}{L:List α}{i:Nat}{d:α}(h:i<L.length):L.take (i+1)=L.take i++[L.getD i d]:=by rw[Mb];simp[h]
theorem d8p{α:Type}{R:RT α}{L:List α}{i:Nat}{c:List SV}(h:i<L.length)(a:c=R.sv (L.getD i R.d)):∀j,j<i+1->(if j<i then R.row (L.take i) j else(List.map (λx:Nat×List SV=>x.snd) [(0,c)].reverse).getD (j-i) [])=R.row (L.take (i+1)) j:=by have e:(L.take i).length=i:=Ej;have:=WA (R:=R) (l:=L.take i) (x:=L.getD i R.d) a;rwa[<-IE h,e]at this
def FL(d:Int)(x:Pa):Int:=if d=0 then x.a else x.b
def OR(s:Sm)(d:Int)(l:List Int):List Int:=s.ps.map λx=>BV l (FL d x)
def Pl(l:List Int)(x:Lo):Pa:=⟨min (BV l x.a) (BV l x.b),max (BV l x.a) (BV l x.b)⟩
def HR(d:Int)(L:List Lo):List Lo:=L.filter λx=>decide (x.s=d)
def SZ(s:Sm)(d:Int)(l:List Int):List Pa:=(HR d s.ls).map (Pl l)
def UX(d:Int)(l:List Int)(P:List Pa):Bool:=P.all λx=>decide (0<=BV l (FL d x))
def Tp(l:List Int)(L:List Lo):Bool:=L.all λx=>decide (0<=BV l x.a)&&decide (0<=BV l x.b)
def spG(s:Sm)(d:Int)(l:List Int):Bool:=UX d l s.ps&&Tp l (HR d s.ls)
theorem d7f{d:Int}{l:List Int}{P:List Pa}{i:Nat}(h:i<P.length):UX d l (P.take (i+1))=(UX d l (P.take i)&&decide (0<=BV l (FL d (P.getD i CE.d)))):=by rw[IE (d:=CE.d) h];simp[UX]
theorem c4t{d:Int}{L:List Lo}{i:Nat}(h:i<L.length)(a:(L.getD i BR.d).s=d):HR d (L.take (i+1))=HR d (L.take i)++[L.getD i BR.d]:=by rw[IE (d:=BR.d) h];unfold HR;rw[List.filter_append];generalize L.getD i BR.d=x at*;simp[a]
theorem d93{d:Int}{L:List Lo}{i:Nat}(h:i<L.length)(a:(L.getD i BR.d).s≠d):HR d (L.take (i+1))=HR d (L.take i):=by rw[IE (d:=BR.d) h];unfold HR;rw[List.filter_append];generalize L.getD i BR.d=x at*;simp[a]
theorem d9r{l:List Int}{L:List Lo}{x:Lo}:Tp l (L++[x])=(Tp l L&&decide (0<=BV l x.a)&&decide (0<=BV l x.b)):=by simp[Tp,Bool.and_assoc]
theorem f9c{s:Sm}{d:Int}{l:List Int}{i:Nat}(h:i<s.ps.length):(OR s d l).getD i AC.d=BV l (FL d (s.ps.getD i CE.d)):=by simp[OR,h]
theorem Sz{s:Sm}{d:Int}{l:List Int}:(OR s d l).length=s.ps.length:=by simp[OR]
theorem spRow{L:List Lo}{d:Int}{l:List Int}{i:Nat}{c:List SV}(h:i<L.length)(a:(L.getD i BR.d).s=d)(b:c=CE.sv (Pl l (L.getD i BR.d))):∀j,j<(HR d (L.take i)).length+1->(if j<(HR d (L.take i)).length then CE.row ((HR d (L.take i)).map (Pl l)) j else(List.map (λx:Nat×List SV=>x.snd) [(0,c)].reverse).getD (j-(HR d (L.take i)).length) [])=CE.row ((HR d (L.take (i+1))).map (Pl l)) j:=by have:=WA (R:=CE) (l:=(HR d (L.take i)).map (Pl l)) (x:=Pl l (L.getD i BR.d)) b;rw[c4t h a,Lq];rwa[K8]at this
theorem f4a{d:Int}{L:List Lo}{i:Nat}:(HR d (L.take i)).length<=L.length:=by unfold HR;exact Kz (Nf _ _) Ej
def f5i(s:Sm)(d:Int)(l:List Int):SV:=.tup [.sl 2 (SZ s d l).length (CE.row (SZ s d l)) none,.sl 1 (OR s d l).length (AC.row (OR s d l)) none,.bool (spG s d l)]
def spIn(s:Sm)(d:Int)(l:List Int):Prop:=(s.ps.length<=100000/\s.ls.length<=100000)/\l.length<=100000/\(d=0\/d=1)
def c94:AK
 | [x,.int .u8 d,y]=>match asSm x,AC.as y with
   |some q,some u=>some (q.1/\AC.isL u.1 u.2/\spIn q.2 d (AC.lst u.1 u.2),f5i q.2 d (AC.lst u.1 u.2))
   |_,_=>none
 |_=>none
def FSpans:Fam:=⟨Sm×Int×List Int,λ(s,d,l)=>[.agg (KP s),.int .u8 d,.sl 1 l.length (AC.row l) none],λ(s,d,l)=>spIn s d l,λ(s,d,l)=>f5i s d l⟩
def spOwn(s:Sm)(l:List Int)(g:Bool)(a:List Blk):List Blk:=.cells 156 (KP s)::.cells 37 [.sl 1 l.length (AC.row l) none]::.cells 4 [.bool g]::a
def ISpans:Sm×Int×List Int->Nat->Option Inv
 |(s,d,l),4=>some {β:=Nat,ok:=λi=>i<=s.ps.length,st:=λi=>⟨[⟨20,none,.int .i64 i⟩,⟨19,none,.int .i64 s.ps.length⟩,⟨18,none,.sl 2 s.ps.length (CE.row s.ps) none⟩,⟨9,none,.clo 150 [.own 1 0,.own 2 0]⟩,⟨8,none,.own 2 0⟩,⟨7,none,.osl 3⟩,⟨6,none,.con (.slice none 0 0)⟩,⟨3,none,.own 0 0⟩,⟨1,none,.int .u8 d⟩],spOwn s l (UX d l (s.ps.take i)) [.row 3 1 i (AC.row ((OR s d l).take i)) none]⟩,μ:=λi=>s.ps.length-i,nl:=[.slot 7 3 1]}
 |(s,d,l),9=>some {β:=Nat,ok:=λi=>i<=s.ls.length,st:=λi=>⟨[⟨40,none,.int .i64 i⟩,⟨39,none,.int .i64 s.ls.length⟩,⟨38,none,.sl 3 s.ls.length (BR.row s.ls) none⟩,⟨9,none,.clo 150 [.own 1 0,.own 2 0]⟩,⟨8,none,.own 2 0⟩,⟨7,none,.osl 3⟩,⟨6,none,.osl 4⟩,⟨1,none,.int .u8 d⟩],spOwn s l (UX d l s.ps&&Tp l (HR d (s.ls.take i))) [.row 3 1 (OR s d l).length (AC.row (OR s d l)) none,.row 206 2 (HR d (s.ls.take i)).length (CE.row ((HR d (s.ls.take i)).map (Pl l))) none]⟩,μ:=λi=>s.ls.length-i,nl:=[.slot 6 206 2]}
 |_,_=>none
theorem pSpans:PS 112 c94:=by
 refine LL {h:=[(150,hSp1)],c2:=true} ⟨Dz,Dz,by simpa using pSp1⟩ FSpans ISpans c94 ?_ ?_ Tryz.func112 Dy Dy Dy ?_
 .intro args pre s h f;unfold c94 at h;split at h
  .rename_i x d y;split at h
   .rename_i q u k m;cases h;exact⟨(q.2,d,AC.lst u.1 u.2),⟨d72 k f.1,E6,IW (AC.as_leL m f.2.1),Ja⟩,f.2.2,rfl⟩
   .cases h
  .cases h
 .exact Bz
 .rintro⟨s,d,l⟩ ⟨⟨c8,cd⟩,g,b⟩;rcases b with rfl|rfl;all_goals
   all_goals refine X0a _ ?_;(repeat' first|constructor|intro h)<;>refine Lm ?_
   refine⟨(0:Nat),Jj _,?_,?_⟩
   .exact X1b
   .intro i e;replace e:i<=s.ps.length:=e;refine X0a _ ?_;(repeat' first|constructor|intro h)<;>refine Lm ?_
    all_goals(try simp only[If,RT.lst_row]at*)
    all_goals(try first
     |omega
     |exact⟨RT.isL_row AC _,g⟩
     |exact A8
     |exact A4)
    .have a:i<s.ps.length:=Dx;refine⟨i+1,Dx,Dx,?_⟩;simp only[d7f a];refine X0a _ ?_;(repeat' first|constructor|intro h)<;>refine Lm ?_
     all_goals(first
      |exact Aq
      |exact d8p (by rw[Sz];exact a) (by rw[f9c a];rfl)
      |skip)
    .have a:i=s.ps.length:=Dx;subst a;refine⟨(0:Nat),Jj _,?_,?_⟩
     .simp only[L8,List.take_zero];refine X0a _ ?_;(repeat' first|constructor|intro h)<;>refine Lm ?_
      all_goals(first
       |exact A2
       |exact Sz.symm
       |exact Ai
       |(simp[Tp,HR];done)
       |(intro j _;rw[L9 (by rw[Sz];exact Jf _)];done)
       |skip)
     .intro i e;replace e:i<=s.ls.length:=e;refine X0a _ ?_;(repeat' first|constructor|intro h)<;>refine Lm ?_
      all_goals(try simp only[If,RT.lst_row]at*)
      all_goals(try first
       |omega
       |exact⟨RT.isL_row AC _,g⟩
       |exact A8
       |(have:=@f4a 0 s.ls i;refine⟨Dx,?_⟩;exact LP Dy Dx)
       |(have:=@f4a 1 s.ls i;refine⟨Dx,?_⟩;exact LP Dy Dx)
       |exact A4
       |exact λ_ _=>Ja)
      .have b:=h;have a:i<s.ls.length:=Dx;refine⟨i+1,Dx,Dx,?_⟩;simp only[c4t a b,d9r,Iv,<-Bool.and_assoc];refine X0a _ ?_;(repeat' first|constructor|intro h)<;>refine Lm ?_
       all_goals(first
        |exact Aq
        |(rw[<-c4t a b];exact spRow a b rfl)
        |skip)
      .have b:=h;have a:i<s.ls.length:=Dx;refine⟨i+1,Dx,Dx,?_⟩;simp only[d93 a b];exact X1c
      all_goals
       have a:i=s.ls.length:=Dx;subst a;simp only[L8];first
        |exact A2
        |(unfold SZ;rw[List.length_map];done)
        |skip
def RR(s:Int):Bool:=decide (1<s)
def f1f:AK
 | [.agg [.int .u8 s,.int .i64 _,.int .i64 _]]=>some (True,.bool (RR s))
 |_=>none
def FCrs1:Fam:=⟨Int×Int×Int,λ(s,a,b)=>[.agg [.int .u8 s,.int .i64 a,.int .i64 b]],λ_=>True,λ(s,_,_)=>.bool (RR s)⟩
theorem pCrs1:PS 114 f1f:=by
 refine con [] Dz FCrs1 (λ_ _=>none) f1f ?_ ?_ Tryz.func114 Dy Dy Dy ?_
 .intro args pre s h hp;unfold f1f at h;split at h
  .rename_i s a b;cases h;exact⟨(s,a,b),⟨Ed,Ja⟩,Ja,rfl⟩
  .cases h
 .exact By
 .rintro⟨s,a,b⟩ _;refine X0a _ ?_;(repeat' first|constructor|intro h)<;>refine Lm ?_
  all_goals first|rfl|skip
def c75:AK
 | [x,.clo g []]=>if g=114 then(BR.as x).map λq=>(BR.isL q.1 q.2/\q.1<=100000,.int .i64 (Oj RR ((BR.lst q.1 q.2).map (·.s))))else none
 |_=>none
def f3s:Fam:=⟨List Lo,λl=>[.sl 3 l.length (BR.row l) none,.clo 114 []],λl=>l.length<=100000,λl=>.int .i64 (Oj RR (l.map (·.s)))⟩
def IIdxFL:List Lo->Nat->Option Inv
 |l,2=>some {β:=Nat,ok:=λi=>i<=l.length/\∀j,j<i->RR ((l.map (·.s)).getD j 0)=false,st:=λi=>⟨[⟨8,none,.int .i64 i⟩,⟨7,none,.int .i64 l.length⟩,⟨1,none,.clo 114 []⟩,⟨0,none,.sl 3 l.length (BR.row l) none⟩],[]⟩,μ:=λi=>l.length-i}
 |_,_=>none
theorem f2b(l:List Lo)(i:Nat):(l.map (·.s)).getD i 0=(l.getD i BR.d).s:=by simp only[J5,Jz];cases l[i]?<;>rfl
theorem pIdxFL:PS 152 c75:=by
 refine con [(114,f1f)] (by simpa using pCrs1) f3s IIdxFL c75 ?_ ?_ Tryz.func152 Dy Dy Dy ?_
 .intro args pre s h a;unfold c75 at h;split at h
  .split at h
   .rename_i d;subst d;simp only[Ih]at h;obtain⟨⟨n,f⟩,hx,rfl,rfl⟩:=h;exact⟨BR.lst n f,⟨IW (BR.as_leL hx a.1),⟨rfl,rfl⟩,Ja⟩,by simp only[f3s,RT.lst_length];exact a.2,rfl⟩
   .cases h
  .cases h
 .exact Bx
 .intro(l:List Lo) a;replace a:l.length<=100000:=a;refine X0a _ ?_;(repeat' first|constructor|intro h)<;>refine Lm ?_
  refine⟨(0:Nat),⟨Jj _,λj hj=>Dx⟩,?_,?_⟩
  .exact X0d
  .intro i g;obtain⟨f7,bv⟩:=g;have c:=f2b l i;have hml:(l.map (·.s)).length=l.length:=K8 ..;refine X0a _ ?_;(repeat' first|constructor|intro h)<;>refine Lm ?_
   all_goals(try simp only[If]at*)
   all_goals(first
    |exact Ak
    |rfl
    |exact Ja
    |exact(b9n Dx bv (by rw[c];assumption)).symm
    |(refine⟨i+1,⟨Dx,λj hj=> ?_⟩,Ea,?_⟩)
    |exact Bp
    |skip)
   .by_cases e:j<i
    .exact bv j e
    .have:j=i:=Dx;subst this;rw[c];assumption
   .exact X0e
def c7j:AK
 | [x,.clo g []]=>if g=114 then(BR.as x).map λq=>(BR.isL q.1 q.2/\q.1<=100000,.bool (((BR.lst q.1 q.2).map (·.s)).any RR))else none
 |_=>none
def f4j:Fam:=⟨List Lo,λl=>[.sl 3 l.length (BR.row l) none,.clo 114 []],λl=>l.length<=100000,λl=>.bool ((l.map (·.s)).any RR)⟩
theorem pCntFL:PS 113 c7j:=by
 refine con [(152,c75)] (by simpa using pIdxFL) f4j (λ_ _=>none) c7j ?_ ?_ Tryz.func113 Dy Dy Dy ?_
 .intro args pre s h a;unfold c7j at h;split at h
  .split at h
   .rename_i b;subst b;simp only[Ih]at h;obtain⟨⟨n,f⟩,hx,rfl,rfl⟩:=h;exact⟨BR.lst n f,⟨IW (BR.as_leL hx a.1),⟨rfl,rfl⟩,Ja⟩,by simp only[f4j,RT.lst_length];exact a.2,rfl⟩
   .cases h
  .cases h
 .exact Bx
 .intro(l:List Lo) a;replace a:l.length<=100000:=a;refine X0a _ ?_;(repeat' first|constructor|intro h)<;>refine Lm ?_
  all_goals(try simp only[RT.lst_row]at*)
  all_goals(first
   |exact⟨BR.isL_row l,a⟩
   |exact b8k _ _
   |skip)
def QS(x:Pa)(h:Int):Bool:=decide (h>x.a)&&decide (h<x.b)
def Qo(x y:Pa):Bool:=(decide (x.a<y.a)&&decide (y.a<x.b)&&decide (x.b<y.b))||(decide (y.a<x.a)&&decide (x.a<y.b)&&decide (y.b<x.b))
def RO(L:List Pa)(P:List Int)(i:Nat):Bool:=P.any (QS (L.getD i CE.d))||(List.range i).any λj=>Qo (L.getD i CE.d) (L.getD j CE.d)
def JY(L:List Pa)(P:List Int):Bool:=(List.range L.length).any (RO L P)
def crC(s:Sm):Nat->Cl
 |0=>s.a
 |_=>s.b
def EU(s:Sm)(K:List Stk)(d:Nat):List Pa:=SZ s d (AY K (crC s d))
def DV(s:Sm)(K:List Stk)(d:Nat):List Int:=OR s d (AY K (crC s d))
def Qx(s:Sm)(K:List Stk)(d:Nat):Bool:=spG s d (AY K (crC s d))
def PM(s:Sm)(K:List Stk):Nat->Bool
 |0=>false
 |1=>JY (EU s K 0) (DV s K 0)
 |_=>JY (EU s K 0) (DV s K 0)||JY (EU s K 1) (DV s K 1)
def RZ(s:Sm):Bool:=(s.ls.map (·.s)).any RR
def Vg(A B:List Int)(i k:Nat):Bool:=decide (CY (A.getD i AC.d) (A.getD k AC.d)*CY (B.getD i AC.d) (B.getD k AC.d)<0)
def Qa(A B:List Int)(i:Nat):Bool:=(List.range i).any λa=>(List.range a).any (Vg A B a)
def NK(s:Sm)(K:List Stk):Int:=
 if(!Qx s K 0||RZ s)=true then 1 else if(!Qx s K 1||RZ s)=true then 1
 else if(PM s K 2||Qa (DV s K 0) (DV s K 1) s.ps.length)=true then 12 else 0
theorem crE_1{s:Sm}{K:List Stk}(a:(!Qx s K 0||RZ s)=false)(h:(!Qx s K 1||RZ s)=true):1=NK s K:=by unfold NK;rw[if_neg (by rw[a];decide),if_pos h]
theorem crE_2{s:Sm}{K:List Stk}(a:(!Qx s K 0||RZ s)=false)(b:(!Qx s K 1||RZ s)=false):NK s K=if(PM s K 2||Qa (DV s K 0) (DV s K 1) s.ps.length)=true then 12 else 0:=by unfold NK;rw[if_neg (by rw[a];decide),if_neg (by rw[b];decide)]
theorem WD(s:Sm)(K:List Stk)(b:Bool):∀i,i<2->JY (EU s K i) (DV s K i)=b->PM s K (i+1)=(PM s K i||b)
 |0,_,e=>by rw[<-e];rfl
 |1,_,e=>by rw[<-e];rfl
 |_+2,h,_=>Dx
theorem f4q{s:Sm}{d:Int}{l:List Int}:(SZ s d l).length<=s.ls.length:=by unfold SZ HR;rw[K8];exact Nf _ _
theorem c7t{L:List Pa}{P:List Int}(h:∀j,j<L.length->RO L P j=false):JY L P=false:=by unfold JY;rw[Jx];intro j a;rw[h j (Ka.1 a)];decide
theorem d4h{L:List Pa}{P:List Int}{k:Nat}(a:k<L.length)(h:RO L P k=true):JY L P=true:=Jp.2 ⟨k,Ka.2 a,h⟩
theorem d7k{L:List Pa}{P:List Int}{k m:Nat}(b:k<L.length)(a:m<P.length)(h:QS (L.getD k CE.d) (P.getD m AC.d)=true):JY L P=true:=d4h b (by unfold RO;rw[Kd];refine .inl (Jp.2 ⟨P.getD m AC.d,?_,h⟩);rw[J5,J6 a];exact Kb a)
theorem c8b{P:List Int}{x:Pa}(h:∀j,j<P.length->QS x (P.getD j AC.d)=false):P.any (QS x)=false:=by rw[Jx];intro v b;obtain⟨j,a,rfl⟩:=K7.1 b;have:=h j a;rw[J5,J6 a]at this;simp only[Kx]at this;rw[this];decide
theorem d6p{L:List Pa}{P:List Int}{k m:Nat}(a:k<L.length)(b:m<k)(h:Qo (L.getD k CE.d) (L.getD m CE.d)=true):JY L P=true:=d4h a (by unfold RO;rw[Kd];exact .inr (Jp.2 ⟨m,Ka.2 b,h⟩))
theorem c2s{L:List Pa}{P:List Int}{k:Nat}(a:P.any (QS (L.getD k CE.d))=false)(b:∀j,j<k->Qo (L.getD k CE.d) (L.getD j CE.d)=false):RO L P k=false:=by unfold RO;rw[a,Ng,Jx];intro j c;rw[b j (Ka.1 c)];decide
theorem d4b{f:Nat->Bool}{q:Nat}(h:f q=true):(List.range (q+1)).any f=true:=Jp.2 ⟨q,Ka.2 (N7 q),h⟩
theorem c9k{f:Nat->Bool}{q:Nat}(h:f q=false):(List.range (q+1)).any f=(List.range q).any f:=by simp[List.range_succ,h]
theorem f00(A B:List Int)(k:Nat):Qa A B (k+1)=(Qa A B k||(List.range k).any (Vg A B k)):=by simp[Qa,List.range_succ]
theorem b7q(a b:Int):CY a b= -1\/CY a b=0\/CY a b=1:=by
 unfold CY;split
 .exact .inl rfl
 .split
  .exact .inr (.inr rfl)
  .exact .inr (.inl rfl)
theorem f5p(a b c d:Int):AD .i64 (CY a b*CY c d):=by rcases b7q a b with e|e|e<;>rcases b7q c d with f|f|f<;>(rw[e,f];simp only[AD];omega)
def crIn(s:Sm)(K:List Stk):Prop:=(s.ps.length<=100000/\s.ls.length<=100000)/\FX K/\(∀c,(AY K c).length<=100000)
def nilV:SV:=.con (.slice none 0 0)
def UO(s:Sm)(K:List Stk)(d:Nat):SV:=.sl 1 (DV s K d).length (AC.row (DV s K d)) none
def paS(s:Sm)(K:List Stk):Nat->List SV
 |0=>[nilV,nilV]
 |1=>[UO s K 0,nilV]
 |_=>[UO s K 0,UO s K 1]
def d7w(s:Sm)(K:List Stk)(i:Nat)(c:List Blk):List Blk:=.cells 156 (KP s)::.cells 200 (paS s K i)::.row 39 3 2 (DE.row [s.a,s.b]) none::c
def WI(s:Sm)(K:List Stk)(d:Nat):Bool:= !Qx s K d||RZ s
def TW(s:Sm)(K:List Stk)(d n:Nat):SV:=.sl 2 n (CE.row (EU s K d)) none
abbrev Rm(s:Sm)(K:List Stk)(d k:Nat):Pa:=(EU s K d).getD k CE.d
def paC(x:Pa):Blk:=.cells 206 [.int .i64 x.a,.int .i64 x.b]
def ICr:Sm×List Stk->Nat->Option Inv
 |(s,K),4=>some {β:=Nat,ok:=λi=>i<=2/\(1<=i->WI s K 0=false)/\(2<=i->WI s K 1=false),st:=λi=>⟨[⟨27,none,.int .i64 i⟩,⟨26,none,.int .i64 2⟩,⟨25,none,.osl 2⟩,⟨6,none,.bool (PM s K i)⟩,⟨5,none,.own 1 0⟩,⟨2,none,.own 0 0⟩,⟨1,none,FN K⟩],d7w s K i []⟩,μ:=λi=>2-i,sub:=λi=>some fun
  |12=>some {β:=Nat,ok:=λk=>k<=(EU s K i).length/\∀j,j<k->RO (EU s K i) (DV s K i) j=false,st:=λk=>⟨[⟨56,none,.int .i64 k⟩,⟨55,none,.int .i64 (EU s K i).length⟩,⟨54,none,TW s K i (EU s K i).length⟩,⟨11,none,UO s K i⟩,⟨10,none,TW s K i (EU s K i).length⟩,⟨27,none,.int .i64 i⟩,⟨26,none,.int .i64 2⟩,⟨25,none,.osl 2⟩,⟨6,none,.bool (PM s K i)⟩,⟨5,none,.own 1 0⟩,⟨2,none,.own 0 0⟩,⟨1,none,FN K⟩],d7w s K (i+1) []⟩,μ:=λk=>(EU s K i).length-k,sub:=λk=>some fun
   |15=>some {β:=Nat,ok:=λm=>m<=(DV s K i).length/\∀j,j<m->QS (Rm s K i k) ((DV s K i).getD j AC.d)=false,st:=λm=>⟨[⟨63,none,.int .i64 m⟩,⟨62,none,.int .i64 (DV s K i).length⟩,⟨61,none,UO s K i⟩,⟨14,none,.own 3 0⟩,⟨13,none,.int .i64 k⟩,⟨56,none,.int .i64 k⟩,⟨55,none,.int .i64 (EU s K i).length⟩,⟨54,none,TW s K i (EU s K i).length⟩,⟨11,none,UO s K i⟩,⟨10,none,TW s K i (EU s K i).length⟩,⟨27,none,.int .i64 i⟩,⟨26,none,.int .i64 2⟩,⟨25,none,.osl 2⟩,⟨6,none,.bool (PM s K i)⟩,⟨5,none,.own 1 0⟩,⟨2,none,.own 0 0⟩,⟨1,none,FN K⟩],d7w s K (i+1) [paC (Rm s K i k)]⟩,μ:=λm=>(DV s K i).length-m}
   |21=>some {β:=Nat,ok:=λm=>m<=k/\(DV s K i).any (QS (Rm s K i k))=false/\∀j,j<m->Qo (Rm s K i k) (Rm s K i j)=false,st:=λm=>⟨[⟨82,none,.int .i64 m⟩,⟨81,none,.int .i64 k⟩,⟨80,none,TW s K i k⟩,⟨14,none,.own 3 0⟩,⟨56,none,.int .i64 k⟩,⟨55,none,.int .i64 (EU s K i).length⟩,⟨54,none,TW s K i (EU s K i).length⟩,⟨11,none,UO s K i⟩,⟨10,none,TW s K i (EU s K i).length⟩,⟨27,none,.int .i64 i⟩,⟨26,none,.int .i64 2⟩,⟨25,none,.osl 2⟩,⟨6,none,.bool (PM s K i)⟩,⟨5,none,.own 1 0⟩,⟨2,none,.own 0 0⟩,⟨1,none,FN K⟩],d7w s K (i+1) [paC (Rm s K i k)]⟩,μ:=λm=>k-m}
   |_=>none}
  |_=>none}
 |(s,K),29=>some {β:=Nat,ok:=λi=>i<=s.ps.length,st:=λi=>⟨[⟨132,none,.int .i64 i⟩,⟨131,none,.int .i64 s.ps.length⟩,⟨6,none,.bool (PM s K 2||Qa (DV s K 0) (DV s K 1) i)⟩,⟨5,none,.own 1 0⟩],[.cells 156 (KP s),.cells 200 (paS s K 2)]⟩,μ:=λi=>s.ps.length-i,sub:=λi=>some fun
  |32=>some {β:=Nat,ok:=λk=>k<=i,st:=λk=>⟨[⟨136,none,.int .i64 k⟩,⟨135,none,.int .i64 i⟩,⟨19,none,.int .i64 i⟩,⟨132,none,.int .i64 i⟩,⟨131,none,.int .i64 s.ps.length⟩,⟨6,none,.bool (PM s K 2||Qa (DV s K 0) (DV s K 1) i||(List.range k).any (Vg (DV s K 0) (DV s K 1) i))⟩,⟨5,none,.own 1 0⟩],[.cells 156 (KP s),.cells 200 (paS s K 2)]⟩,μ:=λk=>i-k}
  |_=>none}
 |_,_=>none
def FCr:Fam:=⟨Sm×List Stk,λ(s,K)=>[.agg (KP s),FN K],λ(s,K)=>crIn s K,λ(s,K)=>.int .i64 (NK s K)⟩
def b43:AK
 | [x,y]=>match asSm x,LI y with
   |some q,some u=>some (q.1/\u.1/\crIn q.2 u.2,.int .i64 (NK q.2 u.2))
   |_,_=>none
 |_=>none
theorem d7v:PS 79 b43:=by
 refine con [(111,f0j),(112,c94),(113,c7j),(115,Td)] (by simpa using⟨pStAt,pSpans,pCntFL,pCmp⟩) FCr ICr b43 ?_ ?_ Tryz.func79 Dy Dy Dy ?_
 .intro args pre s h w;unfold b43 at h;split at h
  .rename_i x y;split at h
   .rename_i q u F G;cases h;exact⟨(q.2,u.2),⟨d72 F w.1,(Py G w.2.1).1,Ja⟩,w.2.2,rfl⟩
   .cases h
  .cases h
 .exact Bx
 .rintro⟨s,K⟩ ⟨⟨c8,cd⟩,ge,rt⟩;refine X0a _ ?_;(repeat' first|constructor|intro h)<;>refine Lm ?_
  refine⟨(0:Nat),⟨E1,λh=>absurd h E1,λh=>absurd h E1⟩,?_,?_⟩
  .refine X0a _ ?_;(repeat' first|constructor|intro h)<;>refine Lm ?_
   all_goals first|exact A2|(intro j b;rcases(show j=0\/j=1 from Dx)with rfl|rfl<;>rfl)|skip
  .intro i d;obtain⟨d,f7,E⟩:=d;replace d:i<=2:=d;rcases(show i=0\/i=1\/i=2 from Dx)with rfl|rfl|rfl
   .refine X0a _ ?_;(repeat' first|constructor|intro h)<;>refine Lm ?_
    all_goals(try simp only[If,RT.lst_row]at*)
    all_goals(try first
     |exact Ah)
    have z:(DV s K 0).length=s.ps.length:=Sz;have A:(EU s K 0).length<=s.ls.length:=f4q;have c:(1<=1->WI s K 0=false)/\(2<=1->WI s K 1=false):=⟨λ_=>h,λe=>absurd e E1⟩
    refine⟨(0:Nat),⟨Jj _,λj b=>absurd b (Jv _)⟩,?_,?_⟩
    .exact X1d
    .intro k g;obtain⟨H,n⟩:=g;refine X0a _ ?_;(repeat' first|constructor|intro h)<;>refine Lm ?_
     all_goals(try simp only[If]at*)
     all_goals(try first
      |exact Ak)
     .have o:k<(EU s K 0).length:=Dx;refine⟨(0:Nat),⟨Jj _,λj b=>absurd b (Jv _)⟩,?_,?_⟩
      .exact X1d
      .intro m B;obtain⟨I,r⟩:=B;refine X0a _ ?_;(repeat' first|constructor|intro h)<;>refine Lm ?_
       all_goals(try simp only[If]at*)
       all_goals(try first
        |exact Ak
        |exact B5)
       .have hs:JY (EU s K 0) (DV s K 0)=true:=d7k (m:=m) o Dx (by unfold QS;assumption);refine⟨(1:Nat),⟨E1,c.1,c.2⟩,E1,?_⟩;exact X1e
       .refine⟨m+1,⟨Dx,λj b=> ?_⟩,by show _-(m+1)<_-m;omega,?_⟩
        .by_cases e:j<m
         .exact r j e
         .have:j=m:=Dx;subst this;assumption
        .exact X1f
       .have C:=c8b (x:=Rm s K 0 k) λj b=>r j Dx;refine⟨(0:Nat),⟨Jj _,C,λj b=>absurd b (Jv _)⟩,?_,?_⟩
        .refine X0a _ ?_;(repeat' first|constructor|intro h)<;>refine Lm ?_
         all_goals first|exact Aq|(intro j _;simp;done)|skip
        .intro q l;obtain⟨J,t,v⟩:=l;refine X0a _ ?_;(repeat' first|constructor|intro h)<;>refine Lm ?_
         all_goals(try simp only[If]at*)
         all_goals(try first
          |exact Ak)
         .have hs:JY (EU s K 0) (DV s K 0)=true:=d6p (m:=q) o Dx (by unfold Qo;assumption);refine⟨(1:Nat),⟨E1,c.1,c.2⟩,E1,?_⟩;exact X1e
         .refine⟨q+1,⟨Dx,t,λj b=> ?_⟩,Hg,?_⟩
          .by_cases e:j<q
           .exact v j e
           .have:j=q:=Dx;subst this;unfold Qo;assumption
          .exact X1f
         .refine⟨k+1,⟨Dx,λj b=> ?_⟩,F9,?_⟩
          .by_cases e:j<k
           .exact n j e
           .have:j=k:=Dx;subst this;exact c2s t λi d=>v i Dx
          .exact X1f
     .have hs:JY (EU s K 0) (DV s K 0)=false:=c7t λj b=>n j Dx;refine⟨(1:Nat),⟨E1,c.1,c.2⟩,E1,?_⟩;refine X0a _ ?_;(repeat' first|constructor|intro h)<;>refine Lm ?_
      all_goals first|exact Aq|exact(WD s K false 0 E1 hs).symm|exact((WD s K false 0 E1 hs).trans (N2 _)).symm|skip
   .refine X0a _ ?_;(repeat' first|constructor|intro h)<;>refine Lm ?_
    all_goals(try simp only[If,RT.lst_row]at*)
    all_goals(try first
     |exact Ah)
    have z:(DV s K 1).length=s.ps.length:=Sz;have A:(EU s K 1).length<=s.ls.length:=f4q;have c:(1<=2->WI s K 0=false)/\(2<=2->WI s K 1=false):=⟨λ_=>f7 (Jf 1),λ_=>h⟩
    refine⟨(0:Nat),⟨Jj _,λj b=>absurd b (Jv _)⟩,?_,?_⟩
    .exact X1d
    .intro k g;obtain⟨H,n⟩:=g;refine X0a _ ?_;(repeat' first|constructor|intro h)<;>refine Lm ?_
     all_goals(try simp only[If]at*)
     all_goals(try first
      |exact Ak)
     .have o:k<(EU s K 1).length:=Dx;refine⟨(0:Nat),⟨Jj _,λj b=>absurd b (Jv _)⟩,?_,?_⟩
      .exact X1d
      .intro m B;obtain⟨I,r⟩:=B;refine X0a _ ?_;(repeat' first|constructor|intro h)<;>refine Lm ?_
       all_goals(try simp only[If]at*)
       all_goals(try first
        |exact Ak
        |exact B5)
       .have hs:JY (EU s K 1) (DV s K 1)=true:=d7k (m:=m) o Dx (by unfold QS;assumption);refine⟨(2:Nat),⟨E1,c.1,c.2⟩,E1,?_⟩;exact X1g
       .refine⟨m+1,⟨Dx,λj b=> ?_⟩,by show _-(m+1)<_-m;omega,?_⟩
        .by_cases e:j<m
         .exact r j e
         .have:j=m:=Dx;subst this;assumption
        .exact X1f
       .have C:=c8b (x:=Rm s K 1 k) λj b=>r j Dx;refine⟨(0:Nat),⟨Jj _,C,λj b=>absurd b (Jv _)⟩,?_,?_⟩
        .refine X0a _ ?_;(repeat' first|constructor|intro h)<;>refine Lm ?_
         all_goals first|exact Aq|(intro j _;simp;done)|skip
        .intro q l;obtain⟨J,t,v⟩:=l;refine X0a _ ?_;(repeat' first|constructor|intro h)<;>refine Lm ?_
         all_goals(try simp only[If]at*)
         all_goals(try first
          |exact Ak)
         .have hs:JY (EU s K 1) (DV s K 1)=true:=d6p (m:=q) o Dx (by unfold Qo;assumption);refine⟨(2:Nat),⟨E1,c.1,c.2⟩,E1,?_⟩;exact X1g
         .refine⟨q+1,⟨Dx,t,λj b=> ?_⟩,Hg,?_⟩
          .by_cases e:j<q
           .exact v j e
           .have:j=q:=Dx;subst this;unfold Qo;assumption
          .exact X1f
         .refine⟨k+1,⟨Dx,λj b=> ?_⟩,F9,?_⟩
          .by_cases e:j<k
           .exact n j e
           .have:j=k:=Dx;subst this;exact c2s t λi d=>v i Dx
          .exact X1f
     .have hs:JY (EU s K 1) (DV s K 1)=false:=c7t λj b=>n j Dx;refine⟨(2:Nat),⟨E1,c.1,c.2⟩,E1,?_⟩;refine X0a _ ?_;(repeat' first|constructor|intro h)<;>refine Lm ?_
      all_goals first|exact Aq|exact(WD s K false 1 E1 hs).symm|exact((WD s K false 1 E1 hs).trans (N2 _)).symm|skip
   .refine X0a _ ?_;(repeat' first|constructor|intro h)<;>refine Lm ?_
    all_goals(try simp only[]at*)
    all_goals(try omega)
    have z:(DV s K 0).length=s.ps.length:=Sz;have hPm:(DV s K 1).length=s.ps.length:=Sz;refine⟨(0:Nat),Jj _,?_,?_⟩
    .refine X0a _ ?_;(repeat' first|constructor|intro h)<;>refine Lm ?_
     all_goals first|exact A2|exact(N2 _).symm|(rw[z];done)|skip
    .intro k g;replace g:k<=s.ps.length:=g;refine X0a _ ?_;(repeat' first|constructor|intro h)<;>refine Lm ?_
     all_goals(try simp only[If]at*)
     .refine⟨(0:Nat),Jj _,?_,?_⟩
      .refine X0a _ ?_;(repeat' first|constructor|intro h)<;>refine Lm ?_
       all_goals first|exact A2|exact(N2 _).symm|skip
      .intro q l;replace l:q<=k:=l;refine X0a _ ?_;(repeat' first|constructor|intro h)<;>refine Lm ?_
       all_goals(try simp only[If]at*)
       all_goals(try first
        |exact Ak
        |exact f5p _ _ _ _
        |exact As)
       .refine⟨q+1,by show q+1<=k;omega,by show k-(q+1)<k-q;omega,?_⟩;refine X0a _ ?_;(repeat' first|constructor|intro h)<;>refine Lm ?_
        all_goals first|exact Aq|(have e:=d4b (f:=Vg (DV s K 0) (DV s K 1) k) (q:=q) (Jr h);rw[e,Bool.or_true];done)|skip
       .refine⟨q+1,by show q+1<=k;omega,by show k-(q+1)<k-q;omega,?_⟩;refine X0a _ ?_;(repeat' first|constructor|intro h)<;>refine Lm ?_
        all_goals first|exact Aq|(have e:=c9k (f:=Vg (DV s K 0) (DV s K 1) k) (q:=q) (Jq h);rw[e];done)|skip
       .have e:q=k:=Dx;subst e;refine⟨q+1,by show q+1<=_;omega,Hg,?_⟩;refine X0a _ ?_;(repeat' first|constructor|intro h)<;>refine Lm ?_
        all_goals first|exact Aq|(rw[f00,Bool.or_assoc];done)|skip
     .have e:k=s.ps.length:=Dx;subst e;rw[crE_2 (f7 E1) (E E1),J7 E2]
     .have e:k=s.ps.length:=Dx;subst e;rw[crE_2 (f7 E1) (E E1),J8 (by simp_all)]
def EO(p:Pt)(r:Mv)(L:List Stk):List SV:=[.int .i64 p.W,.int .i64 p.H,.sl 3 p.l.length (DU p.l) none,.int .u8 r.t,.int .i64 r.x,.int .i64 r.y,FN L]
def MN:SV->Option (Prop×Pt×Mv×List Stk)
 |.agg [.int .i64 W,.int .i64 H,c,.int .u8 t,.int .i64 a,.int .i64 b,z]=>match NU c,LI z with
  |some q,some s=>some (((KZ q.1 q.2/\q.1<=100000)/\(∀x∈DZ q.1 q.2,AD .u8 x.e)/\0<=t/\t<=255)/\s.1/\(∀x∈s.2,AD .u8 x.c.q)/\(Ao s.2).length<=100000,⟨W,H,DZ q.1 q.2⟩,⟨t,a,b⟩,s.2)
  |_,_=>none
 |_=>none
theorem c7m{x:SV}{q:Prop}{L:List Stk}(h:LI x=some (q,L))(hq:q):x.le0 (FN L)/\FX L:=by unfold LI at h;simp only[Ih]at h;obtain⟨⟨n,f⟩,hx,rfl,rfl⟩:=h;exact⟨AA.as_leL hx hq.1,H8,hq.2.2⟩
theorem QW{x:SV}{q:Prop}{p:Pt}{r:Mv}{L:List Stk}(h:MN x=some (q,p,r,L))(d:q):x.le2 (.agg (EO p r L))/\prOK p r/\EG L:=by
 unfold MN at h;split at h
 .rename_i W H c t a b z;split at h
  .rename_i u v e f;cases h;obtain⟨⟨⟨g,i⟩,j,k,l⟩,m,n,o⟩:=d;obtain⟨s,w⟩:=c7m f m;refine⟨?_,⟨⟨by simp only[RP];exact i,j⟩,k,l⟩,w,n,o⟩;refine⟨E3,E3,QH e g,E3,E3,E3,s,Ja⟩
  .cases h
 .cases h
def OD(p:Pt)(r:Mv)(L:List Stk)(u:List Bool)(S:List Sm):List SV:=EO p r L++[.sl 1 u.length (FY.row u) none,.sl 9 S.length (DD.row S) none]
def zP(e:Int)(p:Pt):Pt:=if e=0 then p else⟨0,0,[]⟩
def zR(e:Int)(r:Mv):Mv:=if e=0 then r else⟨0,0,0⟩
def zL{α:Type}(e:Int)(L:List α):List α:=if e=0 then L else []
def rLook(p:Pt)(r:Mv)(L:List Stk):SV:=.tup [.agg (OD (zP (CX p r L) p) (zR (CX p r L) r) (zL (CX p r L) L) (zL (CX p r L) (CS p r)) (zL (CX p r L) (EP p r L))),.int .i64 (CX p r L)]
def YD:AK
 | [x]=>(MN x).map λq=>(q.1,rLook q.2.1 q.2.2.1 q.2.2.2)
 |_=>none
def FLook:Fam:=⟨Pt×Mv×List Stk,λ(p,r,L)=>[.agg (EO p r L)],λ(p,r,L)=>prOK p r/\EG L,λ(p,r,L)=>rLook p r L⟩
theorem pLook:PS 33 YD:=by
 refine con [(74,d92),(44,kUp)] (by simpa using⟨pSeOf,pUp⟩) FLook (λ_ _=>none) YD ?_ ?_ Tryz.func33 Dy Dy Dy ?_
 .intro args pre s h a;unfold YD at h;split at h
  .simp only[Ih]at h;obtain⟨⟨q,p,r,L⟩,hx,rfl,rfl⟩:=h;obtain⟨h1,h2,h3⟩:=QW hx a;exact Cz
  .cases h
 .exact By
 .rintro⟨p,r,L⟩ ⟨c8,cd⟩;refine X0a _ ?_;(repeat' first|constructor|intro h)<;>refine Lm ?_
  all_goals(try simp only[CI,RT.lst_row]at*)
  all_goals(first
   |exact B4
   |(have e:CX p r L=0:=by simpa using h
     first
      |(simp[zP,zR,zL,e];done)
      |(show Bo p r=_;rw[(Vt e).1,e];done))
   |(have e:¬CX p r L=0:=by simpa using h
     simp[zP,zR,zL,e];done)
   |skip)
def VY:SV->Option (Prop×Pt×Mv×List Stk×List Bool×List Sm)
 |.agg [.int .i64 W,.int .i64 H,c,.int .u8 t,.int .i64 a,.int .i64 b,z,u,s]=>match NU c,LI z,FY.as u,DD.as s with
  |some q,some v,some x,some y=>some ((KZ q.1 q.2/\q.1<=100000)/\v.1/\(FY.isL x.1 x.2/\x.1<=100000)/\(DD.isL y.1 y.2/\y.1<=100000),⟨W,H,DZ q.1 q.2⟩,⟨t,a,b⟩,v.2,FY.lst x.1 x.2,DD.lst y.1 y.2)
  |_,_,_,_=>none
 |_=>none
def TE(p:Pt)(L:List Stk)(u:List Bool)(S:List Sm):Prop:=p.l.length<=100000/\FX L/\u.length<=100000/\S.length<=100000
theorem c02{x:SV}{q:Prop}{p:Pt}{r:Mv}{L:List Stk}{u:List Bool}{S:List Sm}(h:VY x=some (q,p,r,L,u,S))(f:q):x.le2 (.agg (OD p r L u S))/\TE p L u S:=by
 unfold VY at h;split at h
 .rename_i W H c t a b z u' s';split at h
  .rename_i g i j k;cases h;obtain⟨q1,l,d,e⟩:=f;obtain⟨m,n⟩:=c7m i l;exact⟨⟨E3,E3,QH g q1.1,E3,E3,E3,m,FY.as_leL j d.1,DD.as_leL k e.1,Ja⟩,H9,n,by rw[RT.lst_length];exact d.2,by rw[RT.lst_length];exact e.2⟩
  .cases h
 .cases h
def OP(L:List Stk)(S:List Sm):Int:=if(S.any λs=> !decide (NK s L=0))=true then 12 else 0
def f5n(S:List Sm):Prop:=∀s∈S,s.ps.length<=100000/\s.ls.length<=100000
theorem f82{L:List Stk}(h:FX L)(c:Cl):(AY L c).length<=100000:=by
 unfold AY;split
 .rename_i s hs;exact h.2 s (List.mem_of_find?_eq_some hs)
 .exact Jj _
def b1k:AK
 | [x]=>(VY x).map λq=>(q.1/\f5n q.2.2.2.2.2,.int .i64 (OP q.2.2.2.1 q.2.2.2.2.2))
 |_=>none
def d00:Fam:=⟨Pt×Mv×List Stk×List Bool×List Sm,λ(p,r,L,u,S)=>[.agg (OD p r L u S)],λ(p,_,L,u,S)=>TE p L u S/\f5n S,λ(_,_,L,_,S)=>.int .i64 (OP L S)⟩
def c9m:Pt×Mv×List Stk×List Bool×List Sm->Nat->Option Inv
 |(p,r,L,u,S),2=>some {β:=Nat,ok:=λi=>i<=S.length/\∀j,j<i->NK (S.getD j BD) L=0,st:=λi=>⟨[⟨8,none,.int .i64 i⟩,⟨7,none,.int .i64 S.length⟩,⟨6,none,.sl 9 S.length (DD.row S) none⟩,⟨1,none,.own 0 0⟩],[.cells 94 (OD p r L u S)]⟩,μ:=λi=>S.length-i}
 |_,_=>none
theorem g0y{L:List Stk}{S:List Sm}{i:Nat}(hi:i<S.length)(h:¬NK (S.getD i BD) L=0):OP L S=12:=by unfold OP;rw[J7];exact Jp.2 ⟨S.getD i BD,CP hi,E4⟩
theorem d8f{L:List Stk}{S:List Sm}(h:∀j,j<S.length->NK (S.getD j BD) L=0):OP L S=0:=by unfold OP;rw[J8];intro b;obtain⟨s,hs,a⟩:=Jp.1 b;obtain⟨i,c,rfl⟩:=NH (d:=BD) hs;rw[h i c]at a;exact absurd a E1
theorem d08:PS 37 b1k:=by
 refine con [(79,b43)] (by simpa using d7v) d00 c9m b1k ?_ ?_ Tryz.func37 Dy Dy Dy ?_
 .intro args pre s h f;unfold b1k at h;split at h
  .simp only[Ih]at h;obtain⟨⟨q,p,r,L,u,S⟩,hx,rfl,rfl⟩:=h;obtain⟨l,m⟩:=c02 hx f.1;exact⟨(p,r,L,u,S),⟨l,Ja⟩,⟨m,f.2⟩,rfl⟩
  .cases h
 .exact By
 .rintro⟨p,r,L,u,S⟩ ⟨⟨c8,a,ge,rt⟩,n⟩;refine X0a _ ?_;(repeat' first|constructor|intro h)<;>refine Lm ?_
  refine⟨(0:Nat),⟨Jj _,λj c=>absurd c (Jv _)⟩,?_,?_⟩
  .exact X1d
  .intro i o;obtain⟨g,k⟩:=o;replace g:i<=S.length:=g;have hs:i<S.length->(S.getD i BD).ps.length<=100000/\(S.getD i BD).ls.length<=100000:=λh=>n _ (CP h);refine X0a _ ?_;(repeat' first|constructor|intro h)<;>refine Lm ?_
   all_goals(try simp only[If,RT.lst_row]at*)
   all_goals(try first
    |omega
    |exact⟨⟨CE.is_row _,BR.is_row _,AC.is_row _⟩,MH L a,hs Dx,a,f82 a⟩
    |exact A4
    |exact(d8f λj c=>k j Dx).symm)
   .have d:(!decide (NK (S.getD i BD) L=0))=true:=h;exact(g0y (i:=i) Dx (by simpa using d)).symm
   .refine⟨i+1,⟨Dx,λj c=> ?_⟩,Ea,?_⟩
    .by_cases e:j<i
     .exact k j e
     .have:j=i:=Dx;subst this;have d:(!decide (NK (S.getD j BD) L=0))=false:=h;simpa using d
    .exact X1f
def IH(W H a b e:Int):Bool:=decide (AU W H a e=0)&&decide (AF W H a e=b)
def Mo(W H a b:Int):Option Int:=if IH W H a b 0=true then some 0 else if IH W H a b 1=true then some 1 else if IH W H a b 2=true then some 2 else none
def TT(W H a b:Int):Int:=if(Mo W H a b).isSome=true then a else 0
def RM(W H a b:Int):Int:=(Mo W H a b).getD 0
def d4f(W H a b:Int):SV:=.agg [.int .i64 (TT W H (min a b) (max a b)),.int .u8 (RM W H (min a b) (max a b))]
def Xs:AK
 | [.agg [.int .i64 W,.int .i64 H],.agg [.int .u8 _,.int .i64 a,.int .i64 b]]=>some (True,d4f W H a b)
 |_=>none
def f9w:Fam:=⟨(Int×Int)×Int×Int×Int,λ((W,H),s,a,b)=>[.agg [.int .i64 W,.int .i64 H],.agg [.int .u8 s,.int .i64 a,.int .i64 b]],λ_=>True,λ((W,H),_,a,b)=>d4f W H a b⟩
def f7b:(Int×Int)×Int×Int×Int->Nat->Option Inv
 |((W,H),s,a,b),3=>some {β:=Nat,ok:=λi=>i<=3/\∀j:Nat,j<i->IH W H (min a b) (max a b) j=false,st:=λi=>⟨[⟨20,none,.int .u8 i⟩,⟨6,none,.int .i64 (max a b)⟩,⟨5,none,.int .i64 (min a b)⟩,⟨4,none,.own 2 0⟩,⟨2,none,.own 0 0⟩],[.cells 26 [.int .i64 W,.int .i64 H],.cells 158 [.int .u8 s,.int .i64 a,.int .i64 b],.cells 100 [.int .i64 0,.int .u8 0]]⟩,μ:=λi=>3-i}
 |_,_=>none
theorem f6q{W H a b:Int}{i:Nat}(hi:i<3)(h:∀j:Nat,j<i->IH W H a b j=false)(c:IH W H a b i=true):Mo W H a b=some (i:Int):=by
 rcases(show i=0\/i=1\/i=2 from Dx)with rfl|rfl|rfl
 .exact J7 c
 .have d:¬IH W H a b 0=true:=Ic;unfold Mo;rw[if_neg d];exact if_pos c
 .have d:¬IH W H a b 0=true:=Ic;have e:¬IH W H a b 1=true:=Ie;unfold Mo;rw[if_neg d,if_neg e];exact if_pos c
theorem f0z{W H a b:Int}(h:∀j:Nat,j<3->IH W H a b j=false):Mo W H a b=none:=by
 have c:¬IH W H a b 0=true:=Ic;have d:¬IH W H a b 1=true:=Ie;have e:¬IH W H a b 2=true:=by rw[show IH W H a b 2=false from h 2 E1];decide
 unfold Mo;rw[if_neg c,if_neg d,if_neg e]
theorem d4a:PS 75 Xs:=by
 refine con [(110,Tu)] (by simpa using b1g) f9w f7b Xs ?_ ?_ Tryz.func75 Dy Dy Dy ?_
 .intro args pre s h hp;unfold Xs at h;split at h
  .rename_i W H s a b;cases h;exact⟨((W,H),s,a,b),⟨Ed,Ed,Ja⟩,Ja,rfl⟩
  .cases h
 .exact Bx
 .rintro⟨⟨W,H⟩,s,a,b⟩ _;refine X0a _ ?_;(repeat' first|constructor|intro h)<;>refine Lm ?_
  refine⟨(0:Nat),⟨Jj _,λj d=>absurd d (Jv _)⟩,?_,?_⟩
  .exact X1d
  .intro i k;obtain⟨g,f⟩:=k;replace g:i<=3:=g;refine X0a _ ?_;(repeat' first|constructor|intro h)<;>refine Lm ?_
   all_goals(try simp only[If]at*)
   all_goals(try first
    |exact Ak
    |(have e:=f6q (i:=i) Dx f (by unfold IH;assumption);simp[TT,RM,e];done)
    |(have e:=f0z λj d=>f j Dx;simp[TT,RM,e];done))
   .refine⟨i+1,⟨Dx,λj d=> ?_⟩,Ea,?_⟩
    .by_cases e:j<i
     .exact f j e
     .have:j=i:=Dx;subst this;unfold IH;assumption
    .exact X1f
def TI(u:List Bool)(b:Int):Int:=if u.getD b.toNat FY.d=true then 1 else 2
def XR:AK
 | [x,.agg [.int .u8 _,.int .i64 _,.int .i64 b]]=>(VY x).map λq=>(q.1/\0<=b/\b<q.2.2.2.2.1.length,.int .u8 (TI q.2.2.2.2.1 b))
 |_=>none
def f67:Fam:=⟨(Pt×Mv×List Stk×List Bool×List Sm)×Int×Int×Int,λ((p,r,L,u,S),s,a,b)=>[.agg (OD p r L u S),.agg [.int .u8 s,.int .i64 a,.int .i64 b]],λ((p,_,L,u,S),_,_,b)=>TE p L u S/\0<=b/\b<u.length,λ((_,_,_,u,_),_,_,b)=>.int .u8 (TI u b)⟩
theorem d1v:PS 76 XR:=by
 refine con [] Dz f67 (λ_ _=>none) XR ?_ ?_ Tryz.func76 Dy Dy Dy ?_
 .intro args pre s h c;unfold XR at h;split at h
  .rename_i x d a b;simp only[Ih]at h;obtain⟨⟨q,p,r,L,u,S⟩,hx,rfl,rfl⟩:=h;obtain⟨e,f⟩:=c02 hx c.1;exact⟨((p,r,L,u,S),d,a,b),⟨e,Ed,Ja⟩,⟨f,c.2⟩,rfl⟩
  .cases h
 .exact Bx
 .rintro⟨⟨p,r,L,u,S⟩,s,a,b⟩ c;replace c:TE p L u S/\0<=b/\b<u.length:=c;refine X0a _ ?_;(repeat' first|constructor|intro h)<;>refine Lm ?_
  all_goals(first
   |omega
   |exact(J7 h).symm
   |exact(J8 (by rw[h];decide)).symm
   |skip)
def MK(v:List Int->List SV)(q:List Int):Int:=match v q with
 | [.int _ m]=>m
 |_=>0
def Rd(h:List Int->Bool)(g:List Int->Int)(w:Bool):List Blk:=[.cells 4 [.bool w],.cells 97 [.omp 2],.map (.ints [.i64,.u8]) false h (λq=>[.int .u8 (g q)])]
def Vl(g:List Int->Int)(q:List Int)(k:Int):Bool:= !decide (g q=3)&& !decide (g q=k)
def chFit(h:List Int->Bool)(v:List Int->List SV):Prop:=(∀q,v q=[.int .u8 (MK v q)])/\∀q,h q=false->MK v q=0
def f0n:HK:=λa own=>match a,own with
 | [.agg [.int .i64 c,.int .u8 e],.int .u8 k,.own 0 0,.own 1 0],[.cells b [.bool w],.cells d [.omp 2],.map K f h v]=>if b=4/\d=97/\K=.ints [.i64,.u8]/\f=false then some ⟨chFit h v,.tup [],Rd h (MK v) (w||Vl (MK v) [c,e] k),[]⟩else none
 |_,_=>none
def FChk1:FamH:=⟨(Int×Int×Int)×(List Int->Bool)×(List Int->Int)×Bool,λ((c,e,k),_)=>[.agg [.int .i64 c,.int .u8 e],.int .u8 k,.own 0 0,.own 1 0],λ(_,h,g,w)=>Rd h g w,λ(_,h,g,_)=>∀q,h q=false->g q=0,λ_=>.tup [],λ((c,e,k),h,g,w)=>Rd h g (w||Vl g [c,e] k),[]⟩
theorem pChk1:HS 38 f0n:=by
 refine FU {} ⟨Dz,Dz,Dz⟩ FChk1 (λ_ _=>none) f0n ?_ ?_ ?_ Tryz.func38 Dy Dy Dy ?_
 .intro args own r h a;unfold f0n at h;split at h
  .rename_i c e k T1 w T2 K ag hs v;split at h
   .rename_i b;obtain⟨rfl,rfl,rfl,rfl⟩:=b;cases h;obtain⟨d,f⟩:=a;refine⟨((c,e,k),hs,MK v,w),⟨Ed,E6,E6,E6,Ja⟩,rfl,⟨⟨Eg,E3,Ja⟩,⟨Eg,E3,Ja⟩,⟨⟨rfl,rfl⟩,λ_=>rfl,λq _=>d q⟩,Ja⟩,f,rfl,rfl,rfl⟩
   .cases h
  .cases h
 .intro i;show 4<=_;decide
 .intro i;show 3<=3;decide
 .rintro⟨⟨c,e,k⟩,hs,g,w⟩ μ a;replace a:∀q,hs q=false->g q=0:=a;refine X0a _ ?_;(repeat' first|constructor|intro h)<;>refine Lm ?_
  all_goals(first
   |exact λ_ j=>by rw[a _ j];kernel_rfl
   |exact B3
   |exact Be
   |rfl
   |skip)
def GU(p:Pt)(u:List Bool)(x:Lo):List Int×Int:=([TT p.W p.H (min x.a x.b) (max x.a x.b),RM p.W p.H (min x.a x.b) (max x.a x.b)],TI u x.b)
def Vc(p:Pt)(u:List Bool)(g:List Int->Int)(l:List Lo):Bool:=l.any λx=>Vl g (GU p u x).1 (GU p u x).2
def NZ(p:Pt)(u:List Bool)(g:List Int->Int)(S:List Sm):Bool:=S.any λs=>Vc p u g s.ls
def Xc(u:List Bool)(S:List Sm):Prop:=∀s∈S,s.ls.length<=100000/\∀x∈s.ls,0<=x.b/\x.b<u.length
def c9b:HK:=λa own=>match a,own with
 | [x,.clo f [.own 0 0,.own 1 0]],[.cells b [.bool w],.cells c [.omp 2],.map K d h v]=>if f=38/\b=4/\c=97/\K=.ints [.i64,.u8]/\d=false then
     (VY x).map λq=>⟨chFit h v/\q.1/\Xc q.2.2.2.2.1 q.2.2.2.2.2,.tup [],Rd h (MK v) (w||NZ q.2.1 q.2.2.2.2.1 (MK v) q.2.2.2.2.2),[]⟩else none
 |_,_=>none
def FLoops:FamH:=⟨(Pt×Mv×List Stk×List Bool×List Sm)×(List Int->Bool)×(List Int->Int)×Bool,λ((p,r,L,u,S),_)=>[.agg (OD p r L u S),.clo 38 [.own 0 0,.own 1 0]],λ(_,h,g,w)=>Rd h g w,λ((p,_,L,u,S),h,g,_)=>TE p L u S/\Xc u S/\∀q,h q=false->g q=0,λ_=>.tup [],λ((p,_,_,u,S),h,g,w)=>Rd h g (w||NZ p u g S),[]⟩
def ILoops:(Pt×Mv×List Stk×List Bool×List Sm)×(List Int->Bool)×(List Int->Int)×Bool->Nat->Option Inv
 |((p,r,L,u,S),h,g,w),2=>some {β:=Nat,ok:=λi=>i<=S.length,st:=λi=>⟨[⟨11,none,.int .i64 i⟩,⟨10,none,.int .i64 S.length⟩,⟨9,none,.sl 9 S.length (DD.row S) none⟩,⟨2,none,.own 3 0⟩,⟨1,none,.clo 38 [.own 0 0,.own 1 0]⟩],Rd h g (w||NZ p u g (S.take i))++[.cells 94 (OD p r L u S)]⟩,μ:=λi=>S.length-i,sub:=λi=>some fun
  |5=>some {β:=Nat,ok:=λk=>k<=(S.getD i DD.d).ls.length,st:=λk=>⟨[⟨18,none,.int .i64 k⟩,⟨17,none,.int .i64 (S.getD i DD.d).ls.length⟩,⟨16,none,.sl 3 (S.getD i DD.d).ls.length (BR.row (S.getD i DD.d).ls) none⟩,⟨11,none,.int .i64 i⟩,⟨10,none,.int .i64 S.length⟩,⟨9,none,.sl 9 S.length (DD.row S) none⟩,⟨2,none,.own 3 0⟩,⟨1,none,.clo 38 [.own 0 0,.own 1 0]⟩],Rd h g (w||NZ p u g (S.take i)||Vc p u g ((S.getD i DD.d).ls.take k))++[.cells 94 (OD p r L u S)]⟩,μ:=λk=>(S.getD i DD.d).ls.length-k}
  |_=>none}
 |_,_=>none
theorem f1u{p:Pt}{u:List Bool}{g:List Int->Int}{S:List Sm}{i:Nat}(hi:i<S.length):NZ p u g (S.take (i+1))=(NZ p u g (S.take i)||Vc p u g (S.getD i DD.d).ls):=by rw[IE (d:=DD.d) hi];simp[NZ]
theorem d94{p:Pt}{u:List Bool}{g:List Int->Int}{l:List Lo}{i:Nat}(hi:i<l.length):Vc p u g (l.take (i+1))=(Vc p u g (l.take i)||Vl g (GU p u (l.getD i BR.d)).1 (GU p u (l.getD i BR.d)).2):=by rw[IE (d:=BR.d) hi];simp[Vc]
theorem pLoops:HS 34 c9b:=by
 refine FU {l:=[(75,Xs),(76,XR)],h:=[(38,f0n)],c2:=true} ⟨by simpa using⟨d4a,d1v⟩,Dz,by simpa using pChk1⟩ FLoops ILoops c9b ?_ ?_ ?_ Tryz.func34 Dy Dy Dy ?_
 .intro args own r h o;unfold c9b at h;split at h
  .rename_i x f T1 w T2 K ag hs v;split at h
   .rename_i s;obtain⟨rfl,rfl,rfl,rfl,rfl⟩:=s;simp only[Jc]at h;obtain⟨⟨q,p,t,L,u,S⟩,hx,rfl⟩:=h;obtain⟨⟨c8,cd⟩,ge,rt⟩:=o;obtain⟨y,z⟩:=c02 hx ge;refine⟨((p,t,L,u,S),hs,MK v,w),⟨y,⟨rfl,rfl⟩,Ja⟩,rfl,⟨⟨Eg,E3,Ja⟩,⟨Eg,E3,Ja⟩,⟨⟨rfl,rfl⟩,λ_=>rfl,λq _=>c8 q⟩,Ja⟩,⟨z,rt,cd⟩,rfl,rfl,rfl⟩
   .cases h
  .cases h
 .exact Bx
 .intro i;show 3<=3;decide
 .rintro⟨⟨p,r,L,u,S⟩,hs,g,w⟩ μ ⟨⟨c8,cd,ge,rt⟩,A,c⟩;refine X0a _ ?_;(repeat' first|constructor|intro h)<;>refine Lm ?_
  refine⟨(0:Nat),Jj _,?_,?_⟩
  .exact X1h
  .intro i j;replace j:i<=S.length:=j;have B:i<S.length->(S.getD i DD.d).ls.length<=100000/\∀x∈(S.getD i DD.d).ls,0<=x.b/\x.b<u.length:=λh=>A _ (CP h);refine X0a _ ?_;(repeat' first|constructor|intro h)<;>refine Lm ?_
   all_goals(try simp only[If]at*)
   all_goals(try first
    |exact Ak
    |exact λ_=>Ja
    |exact λ_ _=>Ja
    |(rw[L9 Dx];done))
   .have m:i<S.length:=Dx;obtain⟨hl1,C⟩:=B m;refine⟨(0:Nat),Jj _,?_,?_⟩
    .exact X1h
    .intro k n;replace n:k<=(S.getD i DD.d).ls.length:=n;have hx:k<(S.getD i DD.d).ls.length->0<=((S.getD i DD.d).ls.getD k BR.d).b/\((S.getD i DD.d).ls.getD k BR.d).b<u.length:=λh=>C _ (CP h);refine X0a _ ?_;(repeat' first|constructor|intro h)<;>refine Lm ?_
     all_goals(try simp only[If,RT.lst_row]at*)
     all_goals(try first
      |exact Bb
      |exact⟨λ_=>rfl,c⟩)
     .have e:k<(S.getD i DD.d).ls.length:=Dx;refine⟨k+1,by show k+1<=_;omega,F9,?_⟩;refine X0a _ ?_;(repeat' first|constructor|intro h)<;>refine Lm ?_
      all_goals first|exact Ab|(rw[d94 e,<-Bool.or_assoc];rfl)|skip
     .have e:k=(S.getD i DD.d).ls.length:=Dx;subst e;refine⟨i+1,Ec,Ea,?_⟩;refine X0a _ ?_;(repeat' first|constructor|intro h)<;>refine Lm ?_
      all_goals first|exact Ab|(rw[f1u m,L8,Bool.or_assoc];done)|skip
section
variable{p:Pt}{r:Mv}{L:List Stk}
theorem d27(S:SkOK p r L):(CS p r).length=AG p.W p.H:=by unfold CS;rw[List.length_map];exact S.P.pl
theorem f38(b:prOK p r)(c:EG L)(h:CX p r L=0):TE p L (CS p r) (EP p r L)/\f5n (EP p r L)/\Xc (CS p r) (EP p r L):=by
 have S:=Yg h b.2.1 c.2.1;have hN:=CF S.hs;have e:=Tj (BF p r L) (3*AG p.W p.H);have hu:=d27 S;have hk:(DW p r L).length=(EJ (BF p r L) (3*AG p.W p.H)).length:=b4q;have one:∀s∈EP p r L,∃t,t∈EJ (BF p r L) (3*AG p.W p.H)/\s=Kl (BF p r L) t:=by
  intro s hs;obtain⟨i,g,rfl⟩:=NH (d:=BD) hs;have f:i<(DW p r L).length:=by rw[<-b9i h];exact g
  exact⟨_,CP (d:=BD) (LY (VH f)),c44 h f⟩
 refine⟨⟨b.1.1,c.1,Dx,by rw[b9i h];omega⟩,λs hs=> ?_,λs hs=> ?_⟩
 .obtain⟨t,a,rfl⟩:=one s hs;obtain⟨j,k,_⟩:=e.2 t a;exact⟨Hh,Hh⟩
 .obtain⟨t,a,rfl⟩:=one s hs;obtain⟨j,k,_⟩:=e.2 t a;refine⟨Hh,λx hx=> ?_⟩;have:=((XP S _ (Jf _) t a).ls x ((Qv _ _ _).1 hx)).2.1.2;unfold AQ at this;omega
end
theorem Jo(p:Pt):(⟨p.W,p.H,p.l⟩:Pt)=p:=rfl
theorem JS(r:Mv):(⟨r.t,r.x,r.y⟩:Mv)=r:=rfl
def KW(l:List Cr)(q:List Int):Int:=l.foldl (λa c=>if FS q c=true then c.k else a) 0
theorem c8d{l:List Cr}{i:Nat}(hi:i<l.length)(q:List Int):KW (l.take (i+1)) q=if FS q (l.getD i d0)=true then(l.getD i d0).k else KW (l.take i) q:=by
 have:l.take (i+1)=l.take i++[l.getD i d0]:=by rw[Mb];congr 1;simp[hi]
 unfold KW;rw[this,List.foldl_append];rfl
theorem f60{l:List Cr}{i:Nat}(hi:i<l.length)(q:List Int):Bl (decide (q=[(l.getD i d0).c,(l.getD i d0).e])) [SV.int .u8 (l.getD i d0).k] [SV.int .u8 (KW (l.take i) q)]=[SV.int .u8 (KW (l.take (i+1)) q)]:=by
 rw[c8d hi];unfold FS;by_cases e:q=[(l.getD i d0).c,(l.getD i d0).e]
 .rw[Jr e,J7 rfl];rfl
 .rw[Jq e,J8 Bool.false_ne_true];rfl
theorem f4c{l:List Cr}{q:List Int}(h:EF l q=false):KW l q=0:=by
 have:∀(l:List Cr) (a:Int),l.any (FS q)=false->l.foldl (λa c=>if FS q c=true then c.k else a) a=a:=by
  intro l;induction l with
  |nil=>intro a _;rfl
  |cons c l b=>
   intro a h;simp only[List.any_cons,Lt]at h;simp only[M3,h.1,Ir];exact b a h.2
 exact this l 0 h
def CO(p:Pt)(r:Mv)(L:List Stk):Int:=
 if¬CX p r L=0 then CX p r L else if¬OP L (EP p r L)=0 then OP L (EP p r L)else if NZ p (CS p r) (KW p.l) (EP p r L)=true then 13 else 0
def Qc:AK
 | [x]=>(MN x).map λq=>(q.1,.int .i64 (CO q.2.1 q.2.2.1 q.2.2.2))
 |_=>none
def FCheck:Fam:=⟨Pt×Mv×List Stk,λ(p,r,L)=>[.agg (EO p r L)],λ(p,r,L)=>prOK p r/\EG L,λ(p,r,L)=>.int .i64 (CO p r L)⟩
def ICheck:Pt×Mv×List Stk->Nat->Option Inv
 |(p,r,L),9=>some {β:=Nat,ok:=λi=>i<=p.l.length,st:=λi=>⟨[⟨28,none,.int .i64 i⟩,⟨27,none,.int .i64 p.l.length⟩,⟨26,none,.sl 3 p.l.length (DU p.l) none⟩,⟨6,none,.own 3 0⟩,⟨3,none,.own 1 0⟩],[.cells 34 (EO p r L),.cells 94 (OD p r L (CS p r) (EP p r L)),.map (.ints [.i64,.u8]) false (EF (p.l.take i)) (λq=>[.int .u8 (KW (p.l.take i) q)]),.cells 97 [.omp 2]]⟩,μ:=λi=>p.l.length-i}
 |_,_=>none
theorem Uj:PS 12 Qc:=by
 refine LL {l:=[(33,YD),(37,b1k)],h:=[(34,c9b)],c2:=true} ⟨by simpa using⟨pLook,d08⟩,Dz,by simpa using pLoops⟩ FCheck ICheck Qc ?_ ?_ Tryz.func12 Dy Dy Dy ?_
 .intro args pre s h m;unfold Qc at h;split at h
  .simp only[Ih]at h;obtain⟨⟨q,p,r,L⟩,hx,rfl,rfl⟩:=h;obtain⟨h1,h2,h3⟩:=QW hx m;exact Cz
  .cases h
 .exact By
 .rintro⟨p,r,L⟩ ⟨c8,cd⟩;refine X0a _ ?_;(repeat' first|constructor|intro h)<;>refine Lm ?_
  all_goals(try simp only[CI,RT.lst_row,Jo,JS]at*)
  .exact Dq
  .exact(J7 E4).symm
  all_goals
   have e:CX p r L=0:=by first|(simpa using h;done)|(rename_i h1;simpa using h1;done)
   have d:¬¬CX p r L=0:=λn=>n e;obtain⟨⟨k1,k2,k3,k4⟩,k5,k6⟩:=f38 c8 cd e;simp only[zP,zR,zL,J7 e]at*
  .exact⟨⟨⟨Do _,k1⟩,MH L k2,⟨FY.isL_row _,k3⟩,DD.isL_row _,k4⟩,k5⟩
  .have b:¬OP L (EP p r L)=0:=E4;unfold CO;rw[J8 d,J7 b]
  .have b:¬¬OP L (EP p r L)=0:=E4;refine⟨(0:Nat),Jj _,?_,?_⟩
   .refine X0a _ ?_;(repeat' first|constructor|intro h)<;>refine Lm ?_
    all_goals first|exact Ab|(intro q;first|rfl|(intro f;exact absurd f (by simp[EF])))|skip
   .intro i j;replace j:i<=p.l.length:=j;refine X0a _ ?_;(repeat' first|constructor|intro h)<;>refine Lm ?_
    all_goals(try simp only[If,CI,RT.lst_row,Jo]at*)
    all_goals(try first
     |omega
     |(simp only[AD];have:=c8.1.1;omega)
     |exact⟨⟨λ_=>rfl,λ_ f=>f4c f⟩,⟨⟨Do _,k1⟩,MH L k2,⟨FY.isL_row _,k3⟩,DD.isL_row _,k4⟩,k6⟩)
    .have k:i<p.l.length:=Dx;refine⟨i+1,Ec,Ea,?_⟩;refine X0a _ ?_;(repeat' first|constructor|intro h)<;>refine Lm ?_
     all_goals first|exact Ab|exact λq=>b7c k q|exact λq _=>f60 k q|skip
    .have g:i=p.l.length:=Dx;subst g;have a:(false||NZ p (CS p r) (KW (List.take p.l.length p.l)) (EP p r L))=true:=h;rw[L8,Ng]at a;unfold CO;rw[J8 d,J8 b,J7 a]
    .have g:i=p.l.length:=Dx;subst g;have a:(false||NZ p (CS p r) (KW (List.take p.l.length p.l)) (EP p r L))=false:=h;rw[L8,Ng]at a;unfold CO;rw[J8 d,J8 b,J8 (by rw[a];decide)]
theorem d6h{A B:List Stk}(h:A.Perm B):(Ao A).length=(Ao B).length:=by unfold Ao;exact(List.Perm.flatMap_right _ h).length_eq
theorem f2k{A:List Stk}{f:Stk->Stk}(h:∀s,(f s).l.length=s.l.length):(Ao (A.map f)).length=(Ao A).length:=by
 induction A with
 |nil=>rfl
 |cons s A a=>
  have b:(Ao ((s::A).map f)).length=(f s).l.length+(Ao (A.map f)).length:=by simp[Ao]
  have c:(Ao (s::A)).length=s.l.length+(Ao A).length:=by simp[Ao]
  rw[b,c,h,a]
theorem QF{p:Pt}{r:Mv}{L:List Stk}(a:prOK p r)(b:EG L):((KZ p.l.length (DU p.l)/\p.l.length<=100000)/\(∀x∈p.l,AD .u8 x.e)/\0<=r.t/\r.t<=255)/\(AA.isL L.length (AA.row L)/\L.length<=100000/\∀s∈L,s.l.length<=100000)/\(∀x∈L,AD .u8 x.c.q)/\(Ao L).length<=100000:=
 ⟨⟨⟨Do _,a.1.1⟩,a.1.2,a.2⟩,MH L b.1,b.2⟩
theorem pr_pre{p:Pt}{r:Mv}(a:prOK p r):((KZ p.l.length (DU p.l)/\p.l.length<=100000)/\∀c∈p.l,AD .u8 c.e)/\0<=r.t/\r.t<=255:=⟨⟨⟨Do _,a.1.1⟩,a.1.2⟩,a.2⟩
theorem d48{A:List Stk}(h:FX A):AA.isL A.length (AA.row A)/\A.length<=100000/\∀s∈A,s.l.length<=100000:=MH A h
def FB:RT (Int×Int):=⟨2,λx=>[.int .u8 x.1,.int .i64 x.2],λl=>match l with
 | [.int _ a,.int _ b]=>(a,b)
 |_=>(0,0),(0,0),λ_=>rfl⟩
def BK:RT Cr:=⟨3,λx=>[.int .i64 x.c,.int .u8 x.e,.int .u8 x.k],λl=>match l with
 | [.int _ a,.int _ b,.int _ c]=>⟨a,b,c⟩
 |_=>⟨0,0,0⟩,⟨0,0,0⟩,λ_=>rfl⟩
def NC(x:Cr):List Int:=[x.c,x.e]
theorem b1x(p:Pt)(r:Mv)(L:List Stk):∃q,MN (.agg (EO p r L))=some (q,p,r,L)/\(prOK p r->EG L->q):=by
 have b:(⟨p.W,p.H,DZ p.l.length (DU p.l)⟩:Pt)=p:=by rw[CI]
 have c:AA.lst L.length (AA.row L)=L:=RT.lst_row _ _;have a:∃q,MN (.agg (EO p r L))=some (q,⟨p.W,p.H,DZ p.l.length (DU p.l)⟩,⟨r.t,r.x,r.y⟩,AA.lst L.length (AA.row L))/\(prOK p r->EG L->q):=⟨_,rfl,λd e=>by have:=QF d e;simp only[RT.lst_row,CI];exact this⟩
 rw[b,c]at a;exact a
def YC:AK
 | [.int .i64 a,.int .i64 b]=>some (b=6/\ -1000000<=a/\a<=1000000,.int .i64 (a/6))
 |_=>none
def FDn:Fam:=⟨Int×Int,λ(a,b)=>[.int .i64 a,.int .i64 b],λ(a,b)=>b=6/\ -1000000<=a/\a<=1000000,λ(a,_)=>.int .i64 (a/6)⟩
theorem pDn:PS 51 YC:=by
 refine con [] Dz FDn (λ_ _=>none) YC ?_ ?_ Tryz.func51 Dy Dy Dy ?_
 .intro args pre s h e;unfold YC at h;split at h
  .rename_i a b;cases h;exact⟨(a,b),by simp[FDn,BT,SV.le2,SV.le1,SV.le0],e,rfl⟩
  .cases h
 .exact Bx
 .rintro⟨a,b⟩ ⟨rfl,h1,h2⟩;have c:0<=a->a.tdiv 6=a/6:=λh=>Lp h;have f:a<0-> -((-a+6-1).tdiv 6)=a/6:=λh=>by rw[Lp Dx];omega
  have d:a<0->(-a+6-1).tdiv 6=(-a+6-1)/6:=λh=>Lp Dx;refine X0a _ ?_;(repeat' first|constructor|intro h)<;>refine Lm ?_
  all_goals(try simp only[Im]at*)
  all_goals(first
   |exact c Dx
   |exact f Dx
   |decide
   |exact A4
   |(rw[d Dx];simp only[AD];omega)
   |(rw[c Dx];simp only[AD];omega)
   |(intro _;rw[d Dx];simp only[AD];omega)
   |(intro _;rw[c Dx];simp only[AD];omega)
   |skip)
def Yd(X Y:Int):Int:=if Y%6<X%6/\X%6+Y%6<6 then 0 else if Y%6<X%6 then 1 else if 6<X%6+Y%6 then 2 else 3
def f02:AK
 | [.agg [.int .i64 X,.int .i64 Y]]=>some ((-1000000<=X/\X<=1000000)/\ -1000000<=Y/\Y<=1000000,.agg [.int .i64 (X/6),.int .i64 (Y/6),.int .u8 (Yd X Y)])
 |_=>none
def FAt25:Fam:=⟨Int×Int,λ(X,Y)=>[.agg [.int .i64 X,.int .i64 Y]],λ(X,Y)=>(-1000000<=X/\X<=1000000)/\ -1000000<=Y/\Y<=1000000,λ(X,Y)=>.agg [.int .i64 (X/6),.int .i64 (Y/6),.int .u8 (Yd X Y)]⟩
theorem pAt25:PS 48 f02:=by
 refine con [(51,YC)] (by simpa using pDn) FAt25 (λ_ _=>none) f02 ?_ ?_ Tryz.func48 Dy Dy Dy ?_
 .intro args pre s h a;unfold f02 at h;split at h
  .rename_i X Y;cases h;exact⟨(X,Y),by simp[FAt25,BT,SV.le2,SV.le1,BM,SV.le0],a,rfl⟩
  .cases h
 .exact By
 .rintro⟨X,Y⟩ a;replace a:(-1000000<=X/\X<=1000000)/\ -1000000<=Y/\Y<=1000000:=a;refine X0a _ ?_;(repeat' first|constructor|intro h)<;>refine Lm ?_
  all_goals(try simp only[Im,Ik]at*)
  all_goals(first
   |omega
   |decide
   |exact⟨rfl,Dx,Dx⟩
   |exact⟨Ja,Dx,Dx⟩
   |exact A4
   |exact An
   |(unfold Yd;repeat (first|rw[if_pos Dx]|rw[if_neg Dx]))
   |skip)
def MZ(X Q:Int):Nat->Int:=tb [6*X+3,if Q=0 then 6*X else if Q=1 then 6*X+6 else if Q=2 then 6*X+6 else 6*X,if Q=0 then 6*X+6 else if Q=1 then 6*X+6 else 6*X]
def MR(Y Q:Int):Nat->Int:=tb [6*Y+3,if Q=0 then 6*Y else if Q=1 then 6*Y else if Q=2 then 6*Y+6 else 6*Y+6,if Q=0 then 6*Y else if Q=1 then 6*Y+6 else if Q=2 then 6*Y+6 else 6*Y]
def kCn:AK
 | [.agg [.int .i64 X,.int .i64 Y,.int .u8 Q]]=>some ((-30000<=X/\X<=30000)/\ -30000<=Y/\Y<=30000,.agg [.int .i64 (MZ X Q 0),.int .i64 (MR Y Q 0),.int .i64 (MZ X Q 1),.int .i64 (MR Y Q 1),.int .i64 (MZ X Q 2),.int .i64 (MR Y Q 2)])
 |_=>none
def FCn:Fam:=⟨Int×Int×Int,λ(X,Y,Q)=>[.agg [.int .i64 X,.int .i64 Y,.int .u8 Q]],λ(X,Y,_)=>(-30000<=X/\X<=30000)/\ -30000<=Y/\Y<=30000,λ(X,Y,Q)=>.agg [.int .i64 (MZ X Q 0),.int .i64 (MR Y Q 0),.int .i64 (MZ X Q 1),.int .i64 (MR Y Q 1),.int .i64 (MZ X Q 2),.int .i64 (MR Y Q 2)]⟩
theorem pCn:PS 64 kCn:=by
 refine con [] Dz FCn (λ_ _=>none) kCn ?_ ?_ Tryz.func64 Dy Dy Dy ?_
 .intro args pre s h a;unfold kCn at h;split at h
  .rename_i X Y Q;cases h;exact⟨(X,Y,Q),by simp[FCn,BT,SV.le2,SV.le1,BM,SV.le0],a,rfl⟩
  .cases h
 .exact By
 .rintro⟨X,Y,Q⟩ a;replace a:(-30000<=X/\X<=30000)/\ -30000<=Y/\Y<=30000:=a;refine X0a _ ?_;(repeat' first|constructor|intro h)<;>refine Lm ?_
  all_goals(try simp only[AD])
  all_goals(try omega)
  all_goals(simp only[Im]at*)
  all_goals(try subst Q)
  all_goals(first|(simp[MZ,MR,tb, *];done)|skip)
def HM(X Q:Int):Int:=if Q=1 then 6*X+5 else if Q=3 then 6*X+1 else 6*X+3
def HP(Y Q:Int):Int:=if Q=0 then 6*Y+1 else if Q=2 then 6*Y+5 else 6*Y+3
def YY:AK
 | [.agg [.int .i64 X,.int .i64 Y,.int .u8 Q]]=>some ((-30000<=X/\X<=30000)/\(-30000<=Y/\Y<=30000)/\0<=Q/\Q<=3,.agg [.int .i64 (HM X Q),.int .i64 (HP Y Q)])
 |_=>none
def FIn25:Fam:=⟨Int×Int×Int,λ(X,Y,Q)=>[.agg [.int .i64 X,.int .i64 Y,.int .u8 Q]],λ(X,Y,Q)=>(-30000<=X/\X<=30000)/\(-30000<=Y/\Y<=30000)/\0<=Q/\Q<=3,λ(X,Y,Q)=>.agg [.int .i64 (HM X Q),.int .i64 (HP Y Q)]⟩
theorem pIn25:PS 50 YY:=by
 refine con [(64,kCn)] (by simpa using pCn) FIn25 (λ_ _=>none) YY ?_ ?_ Tryz.func50 Dy Dy Dy ?_
 .intro args pre s h a;unfold YY at h;split at h
  .rename_i X Y Q;cases h;exact⟨(X,Y,Q),by simp[FIn25,BT,SV.le2,SV.le1,BM,SV.le0],a,rfl⟩
  .cases h
 .exact By
 .rintro⟨X,Y,Q⟩ a;replace a:(-30000<=X/\X<=30000)/\(-30000<=Y/\Y<=30000)/\0<=Q/\Q<=3:=a;have b:Q=0\/Q=1\/Q=2\/Q=3:=Dx;have f:(MZ X Q 0+MZ X Q 1+MZ X Q 2)=3*HM X Q:=by
   rcases b with rfl|rfl|rfl|rfl<;>simp[MZ,tb,HM]<;>omega
  have g:(MR Y Q 0+MR Y Q 1+MR Y Q 2)=3*HP Y Q:=by rcases b with rfl|rfl|rfl|rfl<;>simp[MR,tb,HP]<;>omega
  have c:∀i,i<3-> -200000<=MZ X Q i/\MZ X Q i<=200000:=λi j=>by have d:i=0\/i=1\/i=2:=Dx;rcases d with rfl|rfl|rfl<;>rcases b with rfl|rfl|rfl|rfl<;>simp[MZ,tb]<;>omega
  have e:∀i,i<3-> -200000<=MR Y Q i/\MR Y Q i<=200000:=λi j=>by have d:i=0\/i=1\/i=2:=Dx;rcases d with rfl|rfl|rfl<;>rcases b with rfl|rfl|rfl|rfl<;>simp[MR,tb]<;>omega
  have x0:=c 0 Dx;have x1:=c 1 Dx;have x2:=c 2 Dx;have y0:=e 0 Dx;have y1:=e 1 Dx;have y2:=e 2 Dx;have k:(3*HM X Q).tdiv 3=HM X Q:=Int.mul_tdiv_cancel_left _ Dx;have l:(3*HP Y Q).tdiv 3=HP Y Q:=Int.mul_tdiv_cancel_left _ Dx;refine X0a _ ?_;(repeat' first|constructor|intro h)<;>refine Lm ?_
  all_goals(try simp only[f,g,k,l])
  all_goals(first|exact Az|exact⟨⟨Dx,Dx⟩,Dx,Dx⟩|exact A4|exact An|decide|skip)
def kL25:AK
 | [.int .i64 a,.int .i64 b]=>some (True,.int .i64 (max a b))
 |_=>none
def FL25:Fam:=⟨Int×Int,λ(a,b)=>[.int .i64 a,.int .i64 b],λ(_,_)=>True,λ(a,b)=>.int .i64 (max a b)⟩
theorem pL25:PS 81 kL25:=by
 refine con [] Dz FL25 (λ_ _=>none) kL25 ?_ ?_ Tryz.func81 Dy Dy Dy ?_
 .intro args pre s h c;unfold kL25 at h;split at h
  .rename_i a b;cases h;exact⟨(a,b),by simp[FL25,BT,SV.le2,SV.le1,SV.le0],c,rfl⟩
  .cases h
 .exact Bx
 .rintro⟨a,b⟩ c;replace c:True:=c;refine X0a _ ?_;(repeat' first|constructor|intro h)<;>refine Lm ?_
  all_goals(simp only[Im]at*)
  all_goals(first|omega|skip)
def EY(a b:Int×Int×Int):Int×Int×Int:=if a.1≠b.1 then(4,2*max a.1 b.1,0)else if a.2.1≠b.2.1 then(6,0,2*max a.2.1 b.2.1)else if a.2.2+b.2.2=1\/a.2.2+b.2.2=5 then(5,a.1+a.2.1+1,a.1+a.2.1+1)else(7,a.1-a.2.1,a.2.1-a.1)
def Xr:AK
 | [.agg [.int .i64 a,.int .i64 b,.int .u8 c],.agg [.int .i64 d,.int .i64 e,.int .u8 f]]=>some (((-30000<=a/\a<=30000)/\(-30000<=b/\b<=30000)/\0<=c/\c<=3)/\(-30000<=d/\d<=30000)/\(-30000<=e/\e<=30000)/\0<=f/\f<=3,.agg [.int .u8 (EY (a,b,c) (d,e,f)).1,.int .i64 (EY (a,b,c) (d,e,f)).2.1,.int .i64 (EY (a,b,c) (d,e,f)).2.2])
 |_=>none
def FM25:Fam:=⟨Int×Int×Int×Int×Int×Int,λ(a,b,c,d,e,f)=>[.agg [.int .i64 a,.int .i64 b,.int .u8 c],.agg [.int .i64 d,.int .i64 e,.int .u8 f]],λ(a,b,c,d,e,f)=>((-30000<=a/\a<=30000)/\(-30000<=b/\b<=30000)/\0<=c/\c<=3)/\(-30000<=d/\d<=30000)/\(-30000<=e/\e<=30000)/\0<=f/\f<=3,λ(a,b,c,d,e,f)=>.agg [.int .u8 (EY (a,b,c) (d,e,f)).1,.int .i64 (EY (a,b,c) (d,e,f)).2.1,.int .i64 (EY (a,b,c) (d,e,f)).2.2]⟩
theorem pM25:PS 42 Xr:=by
 refine con [(81,kL25)] (by simpa using pL25) FM25 (λ_ _=>none) Xr ?_ ?_ Tryz.func42 Dy Dy Dy ?_
 .intro args pre s h g;unfold Xr at h;split at h
  .rename_i a b c d e f;cases h;exact⟨(a,b,c,d,e,f),by simp[FM25,BT,SV.le2,SV.le1,BM,SV.le0],g,rfl⟩
  .cases h
 .exact Bx
 .rintro⟨a,b,c,d,e,f⟩ g;replace g:((-30000<=a/\a<=30000)/\(-30000<=b/\b<=30000)/\0<=c/\c<=3)/\(-30000<=d/\d<=30000)/\(-30000<=e/\e<=30000)/\0<=f/\f<=3:=g;refine X0a _ ?_;(repeat' first|constructor|intro h)<;>refine Lm ?_
  all_goals(try simp only[Im,Ig,Iq]at*)
  all_goals(first
   |trivial
   |exact A4
   |exact An
   |(simp[EY, *];done)
   |(simp only[EY];repeat (first|rw[J7 Dx]|rw[J8 Dx]))
   |skip)
def OO:Nat->Int->Int->Int×Int
 |0,a,b=>(a,b)
 |i+1,a,b=>(-(OO i a b).2,(OO i a b).1)
def PB(t X:Int):Int:=if 4<=t then -X else X
theorem d3v{a b K:Int}(c: -K<=a/\a<=K)(d: -K<=b/\b<=K):∀i,(-K<=(OO i a b).1/\(OO i a b).1<=K)/\ -K<=(OO i a b).2/\(OO i a b).2<=K
 |0=>⟨c,d⟩
 |i+1=>by have:=d3v c d i;simp only[OO];omega
theorem f5z{t X Y:Int}(h:0<=t/\t<=7):OO (t%4).toNat (PB t X) Y=AM t X Y:=by have a:t=0\/t=1\/t=2\/t=3\/t=4\/t=5\/t=6\/t=7:=Dx;rcases a with rfl|rfl|rfl|rfl|rfl|rfl|rfl|rfl<;>simp[OO,PB,AM]
def IGo:Int×Int×Int×Int×Int->Nat->Option Inv
 |(t,x,y,X,Y),5=>some {β:=Nat,ok:=λi=>(i:Int)<=t%4,st:=λi=>⟨[⟨7,none,.int .i64 i⟩,⟨6,none,.int .i64 (OO i (PB t X) Y).2⟩,⟨5,none,.int .i64 (OO i (PB t X) Y).1⟩,⟨4,none,.own 2 0⟩,⟨2,none,.own 0 0⟩],[.cells 31 [.int .u8 t,.int .i64 x,.int .i64 y],.cells 82 [.int .i64 X,.int .i64 Y],.cells 82 [.int .i64 0,.int .i64 0]]⟩,μ:=λi=>(t%4).toNat-i}
 |_,_=>none
def Xe:AK
 | [.agg [.int .u8 t,.int .i64 x,.int .i64 y],.agg [.int .i64 X,.int .i64 Y]]=>some ((0<=t/\t<=7)/\((-50000<=x/\x<=50000)/\ -50000<=y/\y<=50000)/\(-300000<=X/\X<=300000)/\ -300000<=Y/\Y<=300000,.agg [.int .i64 ((AM t X Y).1+6*x),.int .i64 ((AM t X Y).2+6*y)])
 |_=>none
def FGo25:Fam:=⟨Int×Int×Int×Int×Int,λ(t,x,y,X,Y)=>[.agg [.int .u8 t,.int .i64 x,.int .i64 y],.agg [.int .i64 X,.int .i64 Y]],λ(t,x,y,X,Y)=>(0<=t/\t<=7)/\((-50000<=x/\x<=50000)/\ -50000<=y/\y<=50000)/\(-300000<=X/\X<=300000)/\ -300000<=Y/\Y<=300000,λ(t,x,y,X,Y)=>.agg [.int .i64 ((AM t X Y).1+6*x),.int .i64 ((AM t X Y).2+6*y)]⟩
theorem pGo25:PS 49 Xe:=by
 refine con [] Dz FGo25 IGo Xe ?_ ?_ Tryz.func49 Dy Dy Dy ?_
 .intro args pre s h f;unfold Xe at h;split at h
  .rename_i t x y X Y;cases h;exact⟨(t,x,y,X,Y),by simp[FGo25,BT,SV.le2,SV.le1,BM,SV.le0],f,rfl⟩
  .cases h
 .exact Bx
 .rintro⟨t,x,y,X,Y⟩ ⟨c,⟨hx,hy⟩,hX,g⟩;have j:t.tmod 4=t%4:=Jy c.1;have k: -300000<=PB t X/\PB t X<=300000:=by unfold PB;split<;>omega
  have l:=@d3v (PB t X) Y 300000 k g;all_goals refine X0a _ ?_;(repeat' first|constructor|intro h)<;>refine Lm ?_
  all_goals(try simp only[Im]at*)
  all_goals(try first
   |exact A4
   |exact An)
  all_goals
   refine⟨(0:Nat),by show (0:Int)<=t%4;omega,?_,?_⟩
   .refine X0a _ ?_;(repeat' first|constructor|intro h)<;>refine Lm ?_
    all_goals first|exact A2|(show _=PB t X;unfold PB;first|rw[if_pos Dx]|rw[if_neg Dx])|skip
   .intro i d;replace d:(i:Int)<=t%4:=d;have m:=l i;have b:(i:Int)=t%4->OO i (PB t X) Y=AM t X Y:=λe=>by
     rw[<-f5z c];congr 1;omega
    refine X0a _ ?_;(repeat' first|constructor|intro h)<;>refine Lm ?_
    all_goals(try simp only[j,Im]at*)
    all_goals(try first
     |decide
     |exact A4
     |exact An
     |(rw[b Dx];done)
     |(rw[b Dx]at m;rw[b Dx];simp only[AD];omega))
    all_goals(try
     refine⟨i+1,by show ((i+1:Nat):Int)<=t%4;omega,by show (t%4).toNat-(i+1)<(t%4).toNat-i;omega,?_⟩;all_goals refine X0a _ ?_;(repeat' first|constructor|intro h)<;>refine Lm ?_
     all_goals first|exact Aq|skip)
theorem in_le{X Q:Int}(_:0<=Q/\Q<=3):6*X+1<=HM X Q/\HM X Q<=6*X+5:=by unfold HM;repeat' split<;>omega
theorem f5j{X Q:Int}(_:0<=Q/\Q<=3):6*X+1<=HP X Q/\HP X Q<=6*X+5:=by unfold HP;repeat' split<;>omega
theorem img_eq{t x y X Y Q:Int}(ht:0<=t/\t<=7)(a:0<=Q/\Q<=3):((AM t (HM X Q) (HP Y Q)).1+6*x)/6=(sq t X Y).1+x/\((AM t (HM X Q) (HP Y Q)).2+6*y)/6=(sq t X Y).2+y/\Yd ((AM t (HM X Q) (HP Y Q)).1+6*x) ((AM t (HM X Q) (HP Y Q)).2+6*y)=tq t Q:=by have b:t=0\/t=1\/t=2\/t=3\/t=4\/t=5\/t=6\/t=7:=Dx;have c:=EW a;rcases b with rfl|rfl|rfl|rfl|rfl|rfl|rfl|rfl<;>rcases c with rfl|rfl|rfl|rfl<;>simp only[AM,HM,HP,sq,tq,tb,Yd]<;>refine⟨?_,?_,?_⟩<;>simp<;>(try omega)<;>((repeat' split)<;>omega)
def Yp:AK
 | [.agg [.int .u8 t,.int .i64 x,.int .i64 y],.agg [.int .i64 X,.int .i64 Y,.int .u8 Q]]=>some ((0<=t/\t<=7)/\((-50000<=x/\x<=50000)/\ -50000<=y/\y<=50000)/\(-30000<=X/\X<=30000)/\(-30000<=Y/\Y<=30000)/\0<=Q/\Q<=3,.agg [.int .i64 ((sq t X Y).1+x),.int .i64 ((sq t X Y).2+y),.int .u8 (tq t Q)])
 |_=>none
def FImg:Fam:=⟨Int×Int×Int×Int×Int×Int,λ(t,x,y,X,Y,Q)=>[.agg [.int .u8 t,.int .i64 x,.int .i64 y],.agg [.int .i64 X,.int .i64 Y,.int .u8 Q]],λ(t,x,y,X,Y,Q)=>(0<=t/\t<=7)/\((-50000<=x/\x<=50000)/\ -50000<=y/\y<=50000)/\(-30000<=X/\X<=30000)/\(-30000<=Y/\Y<=30000)/\0<=Q/\Q<=3,λ(t,x,y,X,Y,Q)=>.agg [.int .i64 ((sq t X Y).1+x),.int .i64 ((sq t X Y).2+y),.int .u8 (tq t Q)]⟩
theorem pImg:PS 18 Yp:=by
 refine con [(50,YY),(49,Xe),(48,f02)] (by simpa using⟨pIn25,pGo25,pAt25⟩) FImg (λ_ _=>none) Yp ?_ ?_ Tryz.func18 Dy Dy Dy ?_
 .intro args pre s h c;unfold Yp at h;split at h
  .rename_i t x y X Y Q;cases h;exact⟨(t,x,y,X,Y,Q),by simp[FImg,BT,SV.le2,SV.le1,BM,SV.le0],c,rfl⟩
  .cases h
 .exact Bx
 .rintro⟨t,x,y,X,Y,Q⟩ ⟨b,⟨hx,d⟩,e,f,a⟩;obtain⟨g,j,k⟩:=@img_eq t x y X Y Q b a;have b1:=@in_le X Q a;have b2:=@f5j Y Q a;have l:t=0\/t=1\/t=2\/t=3\/t=4\/t=5\/t=6\/t=7:=Dx;have m:(-250000<=(AM t (HM X Q) (HP Y Q)).1/\(AM t (HM X Q) (HP Y Q)).1<=250000)/\ -250000<=(AM t (HM X Q) (HP Y Q)).2/\(AM t (HM X Q) (HP Y Q)).2<=250000:=by
   rcases l with rfl|rfl|rfl|rfl|rfl|rfl|rfl|rfl<;>simp only[AM]<;>simp<;>omega
  refine X0a _ ?_;(repeat' first|constructor|intro h)<;>refine Lm ?_
  all_goals(first
   |exact g
   |exact j
   |exact k
   |exact⟨e,f,a⟩
   |exact⟨b,⟨hx,d⟩,⟨Dx,Dx⟩,Dx,Dx⟩
   |exact⟨⟨Dx,Dx⟩,Dx,Dx⟩
   |(obtain⟨⟨l1,l2⟩,l3,l4⟩:=m;exact⟨⟨Dx,Dx⟩,Dx,Dx⟩)
   |skip)
def r8:List Int:=[0,1,2,3,4,5,6,7]
def f7t(f s t:Int):Bool:=decide (AM t 6 0=AM s (AM f 6 0).1 (AM f 6 0).2)&&decide (AM t 0 6=AM s (AM f 0 6).1 (AM f 0 6).2)
theorem f1d:(r8.all λf=>r8.all λs=>r8.all λt=>f7t f s t==decide (t=tt f s))=true:=Fw
theorem Pi{t:Int}(h:0<=t/\t<=7):t∈r8:=by have a:t=0\/t=1\/t=2\/t=3\/t=4\/t=5\/t=6\/t=7:=Dx;rcases a with rfl|rfl|rfl|rfl|rfl|rfl|rfl|rfl<;>decide
theorem f69{f s t:Int}(a:0<=f/\f<=7)(hs:0<=s/\s<=7)(b:0<=t/\t<=7):f7t f s t=decide (t=tt f s):=by have:=Je.1 (Je.1 (Je.1 f1d f (Pi a)) s (Pi hs)) t (Pi b);simpa using this
theorem tt_le0:(r8.all λf=>r8.all λs=>decide (0<=tt f s)&&decide (tt f s<=7))=true:=Fw
theorem tt_le{f s:Int}(a:0<=f/\f<=7)(hs:0<=s/\s<=7):0<=tt f s/\tt f s<=7:=by have:=Je.1 (Je.1 tt_le0 f (Pi a)) s (Pi hs);simpa using this
theorem d1p{t a b c d:Int}(ht:0<=t/\t<=7):(AM t (a+c) (b+d)).1=(AM t a b).1+(AM t c d).1/\(AM t (a+c) (b+d)).2=(AM t a b).2+(AM t c d).2:=by have e:t=0\/t=1\/t=2\/t=3\/t=4\/t=5\/t=6\/t=7:=Dx;rcases e with rfl|rfl|rfl|rfl|rfl|rfl|rfl|rfl<;>simp[AM]<;>omega
theorem d76{t a b:Int}(ht:0<=t/\t<=7):(AM t (6*a) (6*b)).1=6*(AM t a b).1/\(AM t (6*a) (6*b)).2=6*(AM t a b).2:=by have c:t=0\/t=1\/t=2\/t=3\/t=4\/t=5\/t=6\/t=7:=Dx;rcases c with rfl|rfl|rfl|rfl|rfl|rfl|rfl|rfl<;>simp[AM]<;>omega
theorem TQ{t a b K:Int}(ha: -K<=a/\a<=K)(hb: -K<=b/\b<=K):(-K<=(AM t a b).1/\(AM t a b).1<=K)/\ -K<=(AM t a b).2/\(AM t a b).2<=K:=by
 unfold AM;repeat' split
 all_goals(dsimp only;omega)
theorem lin_0{t:Int}(ht:0<=t/\t<=7):AM t 0 0=(0,0):=by have a:t=0\/t=1\/t=2\/t=3\/t=4\/t=5\/t=6\/t=7:=Dx;rcases a with rfl|rfl|rfl|rfl|rfl|rfl|rfl|rfl<;>rfl
theorem th_o{t x y u z w a b:Int}(_:0<=t/\t<=7)(c:0<=u/\u<=7):(AM u ((AM t a b).1+6*x) ((AM t a b).2+6*y)).1+6*z=(AM u (AM t a b).1 (AM t a b).2).1+6*((AM u x y).1+z)/\(AM u ((AM t a b).1+6*x) ((AM t a b).2+6*y)).2+6*w=(AM u (AM t a b).1 (AM t a b).2).2+6*((AM u x y).2+w):=by have d:=@d1p u (AM t a b).1 (AM t a b).2 (6*x) (6*y) c;have e:=@d76 u x y c;rw[d.1,d.2,e.1,e.2];omega
def thV(t x y u z w:Int):List SV:=[.int .u8 (tt t u),.int .i64 ((AM u x y).1+z),.int .i64 ((AM u x y).2+w)]
def thP(t x y u z w a b:Int):List SV:=[.int .i64 ((AM u ((AM t a b).1+6*x) ((AM t a b).2+6*y)).1+6*z),.int .i64 ((AM u ((AM t a b).1+6*x) ((AM t a b).2+6*y)).2+6*w)]
def ITh25:Int×Int×Int×Int×Int×Int->Nat->Option Inv
 |(t,x,y,u,z,w),5=>some {β:=Nat,ok:=λi=>(i:Int)<=tt t u,st:=λi=>⟨[⟨8,none,.int .u8 i⟩,⟨7,none,.own 5 0⟩,⟨6,none,.own 4 0⟩,⟨5,none,.own 3 0⟩,⟨4,none,.own 2 0⟩],[.cells 31 [.int .u8 t,.int .i64 x,.int .i64 y],.cells 31 [.int .u8 u,.int .i64 z,.int .i64 w],.cells 31 [.int .u8 0,.int .i64 0,.int .i64 0],.cells 82 (thP t x y u z w 0 0),.cells 82 (thP t x y u z w 6 0),.cells 82 (thP t x y u z w 0 6)]⟩,μ:=λi=>8-i}
 |_,_=>none
def XX:AK
 | [.agg [.int .u8 t,.int .i64 x,.int .i64 y],.agg [.int .u8 u,.int .i64 z,.int .i64 w]]=>some (((0<=t/\t<=7)/\(-20000<=x/\x<=20000)/\ -20000<=y/\y<=20000)/\(0<=u/\u<=7)/\(-20000<=z/\z<=20000)/\ -20000<=w/\w<=20000,.agg (thV t x y u z w))
 |_=>none
def FTh25:Fam:=⟨Int×Int×Int×Int×Int×Int,λ(t,x,y,u,z,w)=>[.agg [.int .u8 t,.int .i64 x,.int .i64 y],.agg [.int .u8 u,.int .i64 z,.int .i64 w]],λ(t,x,y,u,z,w)=>((0<=t/\t<=7)/\(-20000<=x/\x<=20000)/\ -20000<=y/\y<=20000)/\(0<=u/\u<=7)/\(-20000<=z/\z<=20000)/\ -20000<=w/\w<=20000,λ(t,x,y,u,z,w)=>.agg (thV t x y u z w)⟩
theorem pTh25:PS 20 XX:=by
 refine con [(49,Xe),(51,YC)] (by simpa using⟨pGo25,pDn⟩) FTh25 ITh25 XX ?_ ?_ Tryz.func20 Dy Dy Dy ?_
 .intro args pre s h C;unfold XX at h;split at h
  .rename_i t x y u z w;cases h;exact⟨(t,x,y,u,z,w),by simp[FTh25,BT,SV.le2,SV.le1,BM,SV.le0],C,rfl⟩
  .cases h
 .exact Bx
 .rintro⟨t,x,y,u,z,w⟩ ⟨⟨g,hx,E⟩,f,hz,hw⟩;have hX:=@TQ u x y 20000 hx E;have F:=tt_le g f;have k:=lin_0 g;have m:=lin_0 f;have n:=@TQ t 6 0 6 Dx Dx;have o:=@TQ t 0 6 6 Dx Dx;have b1:=@TQ u (AM t 6 0).1 (AM t 6 0).2 6 n.1 n.2;have b2:=@TQ u (AM t 0 6).1 (AM t 0 6).2 6 o.1 o.2;have l:=@d76 u x y f;have o1:=@th_o t x y u z w 6 0 g f;have o2:=@th_o t x y u z w 0 6 g f;have j:=@th_o t x y u z w 0 0 g f;simp only[k,m]at j;refine AB _ ?_;(repeat' first|constructor|refine Iu λf=> ?_|intro h)<;>refine Lm ?_
  all_goals(try first
   |exact⟨g,⟨Dx,Dx⟩,Dx,Dx⟩
   |exact⟨f,⟨Dx,Dx⟩,⟨Dx,Dx⟩,Dx,Dx⟩
   |(simp only[k];exact⟨f,⟨Dx,Dx⟩,⟨Dx,Dx⟩,Dx,Dx⟩))
  refine⟨(0:Nat),F.1,?_,?_⟩
  .refine AB _ ?_;(repeat' first|constructor|refine Iu λf=> ?_|intro h)<;>refine Lm ?_
   all_goals first|exact A2|skip
  .intro i q;replace q:(i:Int)<=tt t u:=q;have r:((AM i 6 0).1=(AM u (AM t 6 0).1 (AM t 6 0).2).1/\(AM i 6 0).2=(AM u (AM t 6 0).1 (AM t 6 0).2).2/\(AM i 0 6).1=(AM u (AM t 0 6).1 (AM t 0 6).2).1/\(AM i 0 6).2=(AM u (AM t 0 6).1 (AM t 0 6).2).2)↔(i:Int)=tt t u:=by
    have:=@f69 t u i g f Dx;unfold f7t at this;have v:=Mf (· =true) this;simp only[Ip,Prod.ext_iff,eq_iff_iff]at v;rw[<-v];exact⟨λ⟨a,b,c,d⟩=>⟨⟨a,b⟩,c,d⟩,λ⟨⟨a,b⟩,c,d⟩=>⟨a,b,c,d⟩⟩
   have k1:=@TQ (i:Int) 6 0 6 Dx Dx;have k2:=@TQ (i:Int) 0 6 6 Dx Dx;have A:(6*((AM u x y).1+z))/6=(AM u x y).1+z:=Dx;have B:(6*((AM u x y).2+w))/6=(AM u x y).2+w:=Dx;refine AB _ ?_;(repeat' first|constructor|refine Iu λf=> ?_|intro h)<;>refine Lm ?_
   all_goals(try simp only[Im,Ik,Mr]at*)
   all_goals(try simp only[k,o1.1,o1.2,o2.1,o2.2,Int.zero_add,l.1,l.2,<-Int.mul_add,A,B]at h)
   all_goals(try simp only[k,o1.1,o1.2,o2.1,o2.2,Int.zero_add,l.1,l.2,<-Int.mul_add,A,B])
   all_goals(try first
    |exact⟨Ja,Dx,Dx⟩
    |exact⟨⟨Dx,Dx⟩,⟨⟨Dx,Dx⟩,Dx,Dx⟩,⟨Dx,Dx⟩,Dx,Dx⟩
    |exact A4
    |(intro _;exact⟨⟨Dx,Dx⟩,⟨⟨Dx,Dx⟩,Dx,Dx⟩,⟨Dx,Dx⟩,Dx,Dx⟩)
    |exact Bw
    |exact r.1 ⟨Dx,Dx,Dx,Dx⟩
    |omega)
   have b9:(i:Int)≠tt t u:=λe=>by obtain⟨G,H,I,J⟩:=r.2 e;simp only[G,H,I,J]at h;simp at h
   refine⟨i+1,by show ((i+1:Nat):Int)<=tt t u;omega,by show 8-(i+1)<8-i;omega,?_⟩;all_goals refine AB _ ?_;(repeat' first|constructor|refine Iu λf=> ?_|intro h)<;>refine Lm ?_
   all_goals first|exact A2|exact j.1.symm|exact j.2.symm|exact o1.1.symm|exact o1.2.symm|exact o2.1.symm|exact o2.2.symm|(simp only[k];omega)|omega|skip
def SY:AK
 | [.agg [.int .i64 W,.int .i64 _],.int .i64 i]=>some (1<=W/\W<=256/\0<=i/\i<=1024,.agg [.int .i64 (i/4%W),.int .i64 (i/4/W),.int .u8 (i%4)])
 |_=>none
def FCe25:Fam:=⟨Int×Int×Int,λ(W,H,i)=>[.agg [.int .i64 W,.int .i64 H],.int .i64 i],λ(W,_,i)=>1<=W/\W<=256/\0<=i/\i<=1024,λ(W,_,i)=>.agg [.int .i64 (i/4%W),.int .i64 (i/4/W),.int .u8 (i%4)]⟩
theorem Wu:PS 43 SY:=by
 refine con [] Dz FCe25 (λ_ _=>none) SY ?_ ?_ Tryz.func43 Dy Dy Dy ?_
 .intro args pre s h b;unfold SY at h;split at h
  .rename_i W H i;cases h;exact⟨(W,H,i),by simp[FCe25,BT,SV.le2,SV.le1,BM,SV.le0],b,rfl⟩
  .cases h
 .exact Bx
 .rintro⟨W,H,i⟩ ⟨h1,h2,a,h4⟩;have c:i.tdiv 4=i/4:=Lp a;have d:i.tmod 4=i%4:=Jy a;have e:(i/4).tdiv W=i/4/W:=Lp Dx;have f:(i/4).tmod W=i/4%W:=Jy Dx;have a5:i/4/W<=i/4:=Int.ediv_le_self _ Dx;have a6:0<=i/4/W:=Int.ediv_nonneg Dx Dx;have a7:0<=i/4%W:=Mc _ Dx;have a8:i/4%W<W:=M4 _ Dx;refine X0a _ ?_;(repeat' first|constructor|intro h)<;>refine Lm ?_
  all_goals(try simp only[c,d,e,f])
  all_goals(try simp only[AD])
  all_goals(first|omega|skip)
def kE(q k:Int):Int:=if k=0 then 0 else if(q=0\/q=2)↔k=1 then 1 else 2
theorem MT{q k:Int}:0<=kE q k/\kE q k<3:=by unfold kE;repeat' split<;>omega
def JB(X Y Q k:Int):Cl:=AV ⟨X,Y,Q⟩ (kE Q k)
theorem g03{X Y Q k:Int}(a:0<=Q/\Q<=3):JB X Y Q k=if k=0 then(if Q=0 then⟨X,Y-1,2⟩else if Q=1 then⟨X+1,Y,3⟩else if Q=2 then⟨X,Y+1,0⟩else⟨X-1,Y,1⟩)else if k=1 then⟨X,Y,(Q+1)%4⟩else⟨X,Y,(Q+3)%4⟩:=by unfold JB kE AV;rcases EW a with rfl|rfl|rfl|rfl<;>by_cases b:k=0<;>by_cases c:k=1<;>simp[b,c,EI,EK,EM,tb]<;>omega
def d7m:AK
 | [.agg [.int .i64 X,.int .i64 Y,.int .u8 Q],.int .i64 k]=>some ((0<=Q/\Q<=3)/\(-30000<=X/\X<=30000)/\ -30000<=Y/\Y<=30000,.agg [.int .i64 (JB X Y Q k).x,.int .i64 (JB X Y Q k).y,.int .u8 (JB X Y Q k).q])
 |_=>none
def FBy25:Fam:=⟨Int×Int×Int×Int,λ(X,Y,Q,k)=>[.agg [.int .i64 X,.int .i64 Y,.int .u8 Q],.int .i64 k],λ(X,Y,Q,_)=>(0<=Q/\Q<=3)/\(-30000<=X/\X<=30000)/\ -30000<=Y/\Y<=30000,λ(X,Y,Q,k)=>.agg [.int .i64 (JB X Y Q k).x,.int .i64 (JB X Y Q k).y,.int .u8 (JB X Y Q k).q]⟩
theorem pBy25:PS 59 d7m:=by
 refine con [] Dz FBy25 (λ_ _=>none) d7m ?_ ?_ Tryz.func59 Dy Dy Dy ?_
 .intro args pre s h a;unfold d7m at h;split at h
  .rename_i X Y Q k;cases h;exact⟨(X,Y,Q,k),by simp[FBy25,BT,SV.le2,SV.le1,BM,SV.le0],a,rfl⟩
  .cases h
 .exact Bx
 .rintro⟨X,Y,Q,k⟩ a;replace a:(0<=Q/\Q<=3)/\(-30000<=X/\X<=30000)/\ -30000<=Y/\Y<=30000:=a;have b:(Q+1).tmod 4=(Q+1)%4:=Jy Dx;have c:(Q+3).tmod 4=(Q+3)%4:=Jy Dx;have e:=@g03 X Y Q k a.1;refine X0a _ ?_;(repeat' first|constructor|intro h)<;>refine Lm ?_
  all_goals(try simp only[b,c])
  all_goals(try simp only[AD])
  all_goals(try omega)
  all_goals(try simp only[Im]at*)
  all_goals(first|(rw[e];simp[*];done)|(rw[e];repeat (first|rw[J7 Dx]|rw[J8 Dx]))|skip)
def BH(W H i k:Int):Int:=if AU W H i (kE (i%4) k)=0 then AF W H i (kE (i%4) k)else -1
theorem f9v{W H i k:Int}(hs:AP W H=0)(c:0<=i)(h:i<4*W*H):BH W H i k=if(JB (i/4%W) (i/4/W) (i%4) k).x<0\/(JB (i/4%W) (i/4/W) (i%4) k).y<0\/W<=(JB (i/4%W) (i/4/W) (i%4) k).x\/H<=(JB (i/4%W) (i/4/W) (i%4) k).y then -1 else 4*((JB (i/4%W) (i/4/W) (i%4) k).y*W+(JB (i/4%W) (i/4/W) (i%4) k).x)+(JB (i/4%W) (i/4/W) (i%4) k).q:=by
 have a:=@Vs W H i (kE (i%4) k) hs c h MT;rw[JJ hs c h]at a;have e:AV ⟨i/4%W,i/4/W,i%4⟩ (kE (i%4) k)=JB (i/4%W) (i/4/W) (i%4) k:=rfl;rw[e]at a;unfold BH;by_cases b:AU W H i (kE (i%4) k)=0
 .have:=a.1.1 b;rw[J7 b,a.2 b,J8 Dx]
 .have:¬_:=λq=>b (a.1.2 q);rw[J8 b,J7 Dx]
def Tl:AK
 | [.agg [.int .i64 W,.int .i64 H],.int .i64 i,.int .i64 k]=>some (AP W H=0/\0<=i/\i<4*W*H,.int .i64 (BH W H i k))
 |_=>none
def FNb25:Fam:=⟨Int×Int×Int×Int,λ(W,H,i,k)=>[.agg [.int .i64 W,.int .i64 H],.int .i64 i,.int .i64 k],λ(W,H,i,_)=>AP W H=0/\0<=i/\i<4*W*H,λ(W,H,i,k)=>.int .i64 (BH W H i k)⟩
theorem f0g:PS 41 Tl:=by
 refine con [(43,SY),(59,d7m)] (by simpa using⟨Wu,pBy25⟩) FNb25 (λ_ _=>none) Tl ?_ ?_ Tryz.func41 Dy Dy Dy ?_
 .intro args pre s h g;unfold Tl at h;split at h
  .rename_i W H i k;cases h;exact⟨(W,H,i,k),by simp[FNb25,BT,SV.le2,SV.le1,BM,SV.le0],g,rfl⟩
  .cases h
 .exact Bz
 .rintro⟨W,H,i,k⟩ ⟨hs,a,b⟩;have hw:=HB hs;have hN:4*W*H=4*(W*H):=M0 4 W H;have c:=IY hs a b;rw[JJ hs a b]at c;dsimp only at c;have d:=@MX ⟨i/4%W,i/4/W,i%4⟩ (kE (i%4) k) c.2.2.1 MT;have e:AV ⟨i/4%W,i/4/W,i%4⟩ (kE (i%4) k)=JB (i/4%W) (i/4/W) (i%4) k:=rfl;rw[e]at d;dsimp only at d;have f:=@f9v W H i k hs a b;have j:0<=(JB (i/4%W) (i/4/W) (i%4) k).y->0<=(JB (i/4%W) (i/4/W) (i%4) k).y*W/\(JB (i/4%W) (i/4/W) (i%4) k).y*W<=257*256:=λh=>⟨Int.mul_nonneg h Dx,Int.mul_le_mul Dx Dx Dx Dx⟩
  refine X0a _ ?_;(repeat' first|constructor|intro h)<;>refine Lm ?_
  all_goals(try simp only[Im,Iq]at*)
  all_goals(first
   |exact Az
   |exact⟨Dx,⟨Dx,Dx⟩,Dx,Dx⟩
   |exact A4
   |(have q:=j Dx;simp only[AD];omega)
   |(rw[f,J7 Dx];done)
   |(rw[f,J8 Dx];done)
   |skip)
def d8b:AK
 | [.agg [.int .i64 W,.int .i64 H],.int .i64 i,.int .i64 k]=>some (AP W H=0/\0<=i/\i<4*W*H,.int .i64 (kE (i%4) k))
 |_=>none
def FEd25:Fam:=⟨Int×Int×Int×Int,λ(W,H,i,k)=>[.agg [.int .i64 W,.int .i64 H],.int .i64 i,.int .i64 k],λ(W,H,i,_)=>AP W H=0/\0<=i/\i<4*W*H,λ(_,_,i,k)=>.int .i64 (kE (i%4) k)⟩
theorem pEd25:PS 80 d8b:=by
 refine con [(43,SY)] (by simpa using Wu) FEd25 (λ_ _=>none) d8b ?_ ?_ Tryz.func80 Dy Dy Dy ?_
 .intro args pre s h c;unfold d8b at h;split at h
  .rename_i W H i k;cases h;exact⟨(W,H,i,k),by simp[FEd25,BT,SV.le2,SV.le1,BM,SV.le0],c,rfl⟩
  .cases h
 .exact Bz
 .rintro⟨W,H,i,k⟩ ⟨hs,h0,h1⟩;have hw:=HB hs;have hN:4*W*H=4*(W*H):=M0 4 W H;refine X0a _ ?_;(repeat' first|constructor|intro h)<;>refine Lm ?_
  all_goals(try simp only[Im]at*)
  all_goals(first
   |exact Az
   |(unfold kE;simp_all;done)
   |(have a:(i%4=0\/i%4=2)↔k=1:=by
      rename_i b;have:=(M5 (α:=Bool)).1 b;rw[<-Jh (p:=k=1),<-this];simp
     unfold kE;rw[J8 E2,J7 a])
   |(have a:¬((i%4=0\/i%4=2)↔k=1):=λa=>by
      rename_i b;have e:decide (k=1)=(decide (i%4=0)||decide (i%4=2)):=by rw[<-Bool.decide_or];exact decide_eq_decide.2 a.symm
      rw[e]at b;simp at b
     unfold kE;rw[J8 E2,J8 a])
   |skip)
def HH(K C:Int):Int×Int×Int:=if K=1 then(4,2*C,0)else if K=2 then(6,0,2*C)else if K=3 then(5,C,C)else(7,-C,C)
def f21:AK
 | [.agg [.int .u8 K,.int .i64 C]]=>some (-100000<=C/\C<=100000,.agg [.int .u8 (HH K C).1,.int .i64 (HH K C).2.1,.int .i64 (HH K C).2.2])
 |_=>none
def FMi28:Fam:=⟨Int×Int,λ(K,C)=>[.agg [.int .u8 K,.int .i64 C]],λ(_,C)=> -100000<=C/\C<=100000,λ(K,C)=>.agg [.int .u8 (HH K C).1,.int .i64 (HH K C).2.1,.int .i64 (HH K C).2.2]⟩
theorem pMi28:PS 24 f21:=by
 refine con [] Dz FMi28 (λ_ _=>none) f21 ?_ ?_ Tryz.func24 Dy Dy Dy ?_
 .intro args pre s h a;unfold f21 at h;split at h
  .rename_i K C;cases h;exact⟨(K,C),by simp[FMi28,BT,SV.le2,SV.le1,BM,SV.le0],a,rfl⟩
  .cases h
 .exact By
 .rintro⟨K,C⟩ a;replace a: -100000<=C/\C<=100000:=a;refine X0a _ ?_;(repeat' first|constructor|intro h)<;>refine Lm ?_
  all_goals(try simp only[Im]at*)
  all_goals(first
   |trivial
   |exact A4
   |exact An
   |(simp[HH, *];done)
   |(simp only[HH];repeat (first|rw[J7 Dx]|rw[J8 Dx]))
   |skip)
def GQ(a b:Int×Int×Int):Int×Int:=if a.1≠b.1 then(1,max a.1 b.1)else if a.2.1≠b.2.1 then(2,max a.2.1 b.2.1)else if a.2.2+b.2.2=1\/a.2.2+b.2.2=5 then(3,a.1+a.2.1+1)else(4,a.2.1-a.1)
theorem be_m(a b:Int×Int×Int):GQ a b=if(EY a b).1=4 then(1,(EY a b).2.1.tdiv 2)else if(EY a b).1=6 then(2,(EY a b).2.2.tdiv 2)else if(EY a b).1=5 then(3,(EY a b).2.1)else(4,(EY a b).2.2):=by
 unfold GQ EY;have c:∀x:Int,(2*x).tdiv 2=x:=λx=>Int.mul_tdiv_cancel_left _ Dx;repeat' split
 all_goals first
  |rfl
  |(simp only[c];done)
  |(simp_all;done)
theorem m25_le{a b c d e f:Int}(h:((-30000<=a/\a<=30000)/\(-30000<=b/\b<=30000)/\0<=c/\c<=3)/\(-30000<=d/\d<=30000)/\(-30000<=e/\e<=30000)/\0<=f/\f<=3):(-60001<=(EY (a,b,c) (d,e,f)).2.1/\(EY (a,b,c) (d,e,f)).2.1<=60001)/\ -60001<=(EY (a,b,c) (d,e,f)).2.2/\(EY (a,b,c) (d,e,f)).2.2<=60001:=by
 unfold EY;repeat' split
 all_goals(dsimp only at*;omega)
theorem d6f{x:Int}(h: -60001<=x/\x<=60001): -60001<=x.tdiv 2/\x.tdiv 2<=60001:=by
 have h1:=Int.mul_tdiv_add_tmod x 2;have h2:=Int.tmod_lt_of_pos x (b:=2) Dx;have h3: -2<x.tmod 2:=by
  rcases Int.le_total 0 x with h|h
  .have:=Int.tmod_nonneg 2 h;omega
  .have:=Int.tmod_nonneg 2 (a:= -x) Dx;rw[Int.neg_tmod]at this;have c:=Int.tmod_lt_of_pos (-x) (b:=2) Dx;rw[Int.neg_tmod]at c;omega
 omega
def d82:AK
 | [.agg [.int .i64 a,.int .i64 b,.int .u8 c],.agg [.int .i64 d,.int .i64 e,.int .u8 f]]=>some (((-30000<=a/\a<=30000)/\(-30000<=b/\b<=30000)/\0<=c/\c<=3)/\(-30000<=d/\d<=30000)/\(-30000<=e/\e<=30000)/\0<=f/\f<=3,.agg [.int .u8 (GQ (a,b,c) (d,e,f)).1,.int .i64 (GQ (a,b,c) (d,e,f)).2])
 |_=>none
def FBe28:Fam:=⟨Int×Int×Int×Int×Int×Int,λ(a,b,c,d,e,f)=>[.agg [.int .i64 a,.int .i64 b,.int .u8 c],.agg [.int .i64 d,.int .i64 e,.int .u8 f]],λ(a,b,c,d,e,f)=>((-30000<=a/\a<=30000)/\(-30000<=b/\b<=30000)/\0<=c/\c<=3)/\(-30000<=d/\d<=30000)/\(-30000<=e/\e<=30000)/\0<=f/\f<=3,λ(a,b,c,d,e,f)=>.agg [.int .u8 (GQ (a,b,c) (d,e,f)).1,.int .i64 (GQ (a,b,c) (d,e,f)).2]⟩
theorem pBe28:PS 94 d82:=by
 refine con [(42,Xr)] (by simpa using pM25) FBe28 (λ_ _=>none) d82 ?_ ?_ Tryz.func94 Dy Dy Dy ?_
 .intro args pre s h g;unfold d82 at h;split at h
  .rename_i a b c d e f;cases h;exact⟨(a,b,c,d,e,f),by simp[FBe28,BT,SV.le2,SV.le1,BM,SV.le0],g,rfl⟩
  .cases h
 .exact Bx
 .rintro⟨a,b,c,d,e,f⟩ g;replace g:((-30000<=a/\a<=30000)/\(-30000<=b/\b<=30000)/\0<=c/\c<=3)/\(-30000<=d/\d<=30000)/\(-30000<=e/\e<=30000)/\0<=f/\f<=3:=g;have k:=be_m (a,b,c) (d,e,f);have j:=m25_le g;have d1:=d6f j.1;have d2:=d6f j.2;refine X0a _ ?_;(repeat' first|constructor|intro h)<;>refine Lm ?_
  all_goals(try simp only[Im]at*)
  all_goals(first
   |trivial
   |exact g
   |exact⟨E1,Fh⟩
   |exact A4
   |exact An
   |(rw[k];repeat (first|rw[J7 E2]|rw[J8 E2]))
   |skip)
def af28(a b:Int×Int×Int):Int:=if b.2.1<a.2.1\/a.2.1=b.2.1/\(b.1<a.1\/a.1=b.1/\b.2.2<a.2.2)then 1 else 0
def f0d:AK
 | [.agg [.int .i64 a,.int .i64 b,.int .u8 c],.agg [.int .i64 d,.int .i64 e,.int .u8 f]]=>some (True,.int .i64 (af28 (a,b,c) (d,e,f)))
 |_=>none
def FAf28:Fam:=⟨Int×Int×Int×Int×Int×Int,λ(a,b,c,d,e,f)=>[.agg [.int .i64 a,.int .i64 b,.int .u8 c],.agg [.int .i64 d,.int .i64 e,.int .u8 f]],λ(_,_,_,_,_,_)=>True,λ(a,b,c,d,e,f)=>.int .i64 (af28 (a,b,c) (d,e,f))⟩
theorem pAf28:PS 95 f0d:=by
 refine con [] Dz FAf28 (λ_ _=>none) f0d ?_ ?_ Tryz.func95 Dy Dy Dy ?_
 .intro args pre s h g;unfold f0d at h;split at h
  .rename_i a b c d e f;cases h;exact⟨(a,b,c,d,e,f),by simp[FAf28,BT,SV.le2,SV.le1,BM,SV.le0],g,rfl⟩
  .cases h
 .exact Bx
 .rintro⟨a,b,c,d,e,f⟩ g;replace g:True:=g;refine X0a _ ?_;(repeat' first|constructor|intro h)<;>refine Lm ?_
  all_goals(try simp only[Im,Iq,Ik]at*)
  all_goals(first
   |trivial
   |exact A4
   |(unfold af28;dsimp only;first|rw[if_pos Dx]|rw[if_neg Dx])
   |skip)
def DN(a b:Mv):Mv:=⟨tt a.t b.t,(AM b.t a.x a.y).1+b.x,(AM b.t a.x a.y).2+b.y⟩
def BE(m:Mv)(c:Cl):Cl:=⟨(sq m.t c.x c.y).1+m.x,(sq m.t c.x c.y).2+m.y,tq m.t c.q⟩
def EE(m:Mv):Prop:=0<=m.t/\m.t<=7
def CD(c:Cl):Prop:=0<=c.q/\c.q<=3
def OC(m:Mv):Prop:=(m.x+m.y)%2=0
theorem LC{t:Int}(h:0<=t/\t<=7):t=0\/t=1\/t=2\/t=3\/t=4\/t=5\/t=6\/t=7:=Dx
theorem f8t{a b:Mv}(c:EE a)(d:EE b):EE (DN a b):=tt_le c d
theorem QR{m:Mv}{c:Cl}(a:EE m)(b:CD c):CD (BE m c):=f23 (LC a) b
theorem tt_as0:(r8.all λa=>r8.all λb=>r8.all λc=>decide (tt (tt a b) c=tt a (tt b c)))=true:=Fw
theorem tt_as{a b c:Int}(d:0<=a/\a<=7)(e:0<=b/\b<=7)(f:0<=c/\c<=7):tt (tt a b) c=tt a (tt b c):=by have:=Je.1 (Je.1 (Je.1 tt_as0 a (Pi d)) b (Pi e)) c (Pi f);simpa using this
theorem lin_tt{t u a b:Int}(c:0<=t/\t<=7)(d:0<=u/\u<=7):AM (tt t u) a b=AM u (AM t a b).1 (AM t a b).2:=by rcases LC c with rfl|rfl|rfl|rfl|rfl|rfl|rfl|rfl<;>rcases LC d with rfl|rfl|rfl|rfl|rfl|rfl|rfl|rfl<;>simp[tt,tt.tbl,tb,AM]
theorem Mv.ext'{a b:Mv}(h1:a.t=b.t)(h2:a.x=b.x)(h3:a.y=b.y):a=b:=I3
theorem UL{a b c:Mv}(h:EE a)(e:EE b)(d:EE c):DN (DN a b) c=DN a (DN b c):=by
 have f:=@d1p c.t (AM b.t a.x a.y).1 (AM b.t a.x a.y).2 b.x b.y d;have g:=@lin_tt b.t c.t a.x a.y e d;refine Mv.ext' (tt_as h e d) ?_ ?_
 .show (AM c.t ((AM b.t a.x a.y).1+b.x) ((AM b.t a.x a.y).2+b.y)).1+c.x=(AM (tt b.t c.t) a.x a.y).1+((AM c.t b.x b.y).1+c.x);rw[f.1,g];omega
 .show (AM c.t ((AM b.t a.x a.y).1+b.x) ((AM b.t a.x a.y).2+b.y)).2+c.y=(AM (tt b.t c.t) a.x a.y).2+((AM c.t b.x b.y).2+c.y);rw[f.2,g];omega
theorem SN{a b:Mv}{c:Cl}(d:EE a)(e:EE b)(f:CD c):BE (DN a b) c=BE b (BE a c):=by
 have:=@sq_tt a.t b.t c.x c.y a.x a.y (LC d) (LC e);refine Cl.ext' ?_ ?_ (tq_tt (LC d) (LC e) f)
 .show (sq (tt a.t b.t) c.x c.y).1+((AM b.t a.x a.y).1+b.x)=(sq b.t ((sq a.t c.x c.y).1+a.x) ((sq a.t c.x c.y).2+a.y)).1+b.x;omega
 .show (sq (tt a.t b.t) c.x c.y).2+((AM b.t a.x a.y).2+b.y)=(sq b.t ((sq a.t c.x c.y).1+a.x) ((sq a.t c.x c.y).2+a.y)).2+b.y;omega
theorem Xl{m:Mv}{c d:Cl}(h:EE m)(j:CD c)(k:CD d)(e:BE m c=BE m d):c=d:=by
 simp only[BE,Cl.mk.injEq]at e;obtain⟨g,i,f⟩:=e;have l:c.q=d.q:=by rcases LC h with e|e|e|e|e|e|e|e<;>simp only[e,tq]at f<;>rcases EW j with a|a|a|a<;>rcases EW k with b|b|b|b<;>rw[a,b]at f⊢ <;>revert f<;>decide
 refine Cl.ext' ?_ ?_ l<;>(rcases LC h with e|e|e|e|e|e|e|e<;>simp only[e,sq]at g i<;>simp at g i<;>omega)
def DA:Mv:=⟨0,0,0⟩
theorem d30{a:Mv}(b:EE a):DN a DA=a/\DN DA a=a:=by obtain⟨t,x,y⟩:=a;rcases LC b with h|h|h|h|h|h|h|h<;>(simp only at h;subst h;simp[DN,DA,tt,tt.tbl,tb,AM])
def Sn(t:Int):Int:=tb [0,3,2,1,4,5,6,7] t.toNat
def PZ(m:Mv):Mv:=⟨Sn m.t,-(AM (Sn m.t) m.x m.y).1,-(AM (Sn m.t) m.x m.y).2⟩
theorem d7y{m:Mv}(h:EE m):EE (PZ m):=by show 0<=Sn m.t/\Sn m.t<=7;unfold Sn;rcases LC h with e|e|e|e|e|e|e|e<;>rw[e]<;>decide
theorem c4h{m:Mv}(h:EE m):DN m (PZ m)=DA/\DN (PZ m) m=DA:=by obtain⟨t,x,y⟩:=m;rcases LC h with e|e|e|e|e|e|e|e<;>(simp only at e;subst e;simp[DN,DA,PZ,Sn,tt,tt.tbl,tb,AM];try omega)
theorem d70{a b:Mv}(c:OC a)(hb:OC b):OC (DN a b):=by unfold OC at*;have:=@d25 b.t a.x a.y c;show ((AM b.t a.x a.y).1+b.x+((AM b.t a.x a.y).2+b.y))%2=0;omega
def BJ(K C:Int):Mv:=⟨(HH K C).1,(HH K C).2.1,(HH K C).2.2⟩
theorem c3w{K:Int}(h:1<=K/\K<=4):K=1\/K=2\/K=3\/K=4:=Dx
theorem c5m(K C:Int):BJ K C=⟨4,2*C,0⟩\/BJ K C=⟨6,0,2*C⟩\/BJ K C=⟨5,C,C⟩\/BJ K C=⟨7,-C,C⟩:=by
 unfold BJ HH;by_cases a:K=1
 .simp[a]
 by_cases b:K=2
 .simp[b]
 by_cases c:K=3
 .simp[c]
 .simp[a,b,c]
theorem JH{K C:Int}:EE (BJ K C):=by rcases c5m K C with h|h|h|h<;>(rw[h];unfold EE;simp)
theorem g0n{K C:Int}:OC (BJ K C):=by rcases c5m K C with h|h|h|h<;>(rw[h];unfold OC;dsimp only;omega)
theorem d3i{K C:Int}:DN (BJ K C) (BJ K C)=DA:=by rcases c5m K C with h|h|h|h<;>(rw[h];simp[DN,DA,tt,tt.tbl,tb,AM]<;>omega)
theorem c93{K C t:Int}(a:0<=t/\t<=7):(tt t (BJ K C).t<4↔¬t<4)/\(tt (BJ K C).t t<4↔¬t<4):=by rcases c5m K C with h|h|h|h<;>(rw[h];rcases LC a with rfl|rfl|rfl|rfl|rfl|rfl|rfl|rfl<;>dsimp only<;>decide)
theorem Rl{K C:Int}{c:Cl}(a:CD c):BE (BJ K C) (BE (BJ K C) c)=c:=by rw[<-SN JH JH a,d3i];obtain⟨x,y,q⟩:=c;rcases EW a with h|h|h|h<;>(simp only at h;subst h;simp[BE,DA,sq,tq,tb])
def LS(c:Cl)(e:Int):Mv:=BJ (DB c.q e) (DF c.x c.y c.q e)
def Om(t e:Int):Int:=if e=0 then 0 else if t=0\/t=2\/t=5\/t=7 then e else 3-e
theorem Sk{t e:Int}(he:0<=e/\e<3):0<=Om t e/\Om t e<3:=by unfold Om;split<;>(try split)<;>omega
theorem UM{c:Cl}{e:Int}(a:CD c)(b:0<=e/\e<3):CD (AV c e):=(MX a b).2.2
theorem cm_bey{m:Mv}{c:Cl}{e:Int}(b:EE m)(d:CD c)(f:0<=e/\e<3):BE m (AV c e)=AV (BE m c) (Om m.t e):=by obtain⟨X,Y,Q⟩:=c;obtain⟨t,x,y⟩:=m;rcases EW d with h|h|h|h<;>rcases GS f with rfl|rfl|rfl<;>rcases LC b with a|a|a|a|a|a|a|a<;>(simp only at h a;subst h;subst a;simp[Om,BE,AV,sq,tq,EI,EK,EM,tb];try omega)
theorem b8x{c:Cl}{e:Int}(a:CD c)(b:0<=e/\e<3):BE (LS c e) c=AV c e:=by obtain⟨X,Y,Q⟩:=c;rcases EW a with h|h|h|h<;>rcases GS b with rfl|rfl|rfl<;>(simp only at h;subst h;simp[LS,BJ,HH,DB,DF,Hl,JU,BE,AV,sq,tq,EI,EK,EM,tb];try omega)
theorem d9b{c:Cl}{e:Int}(a:CD c)(b:0<=e/\e<3):BE (LS c e) (AV c e)=c:=by rw[<-b8x a b];exact Rl a
theorem d87{m:Mv}{c:Cl}{e:Int}(b:EE m)(d:CD c)(f:0<=e/\e<3):DN (LS c e) m=DN m (LS (BE m c) (Om m.t e)):=by obtain⟨X,Y,Q⟩:=c;obtain⟨t,x,y⟩:=m;rcases EW d with h|h|h|h<;>rcases GS f with rfl|rfl|rfl<;>rcases LC b with a|a|a|a|a|a|a|a<;>(simp only at h a;subst h;subst a;simp[Om,DN,LS,BJ,HH,DB,DF,Hl,JU,BE,tt,tt.tbl,AM,sq,tq,tb];try omega)
def VA(K _ X Y Q:Int):Int:=tb [0,HM X Q,HP Y Q,HM X Q+HP Y Q,HP Y Q-HM X Q] K.toNat
def DJ(K C:Int)(c:Cl):Int:=if VA K C c.x c.y c.q<6*C then 0 else 1
theorem Ql{K C:Int}{c:Cl}:DJ K C c=0\/DJ K C c=1:=by unfold DJ;split<;>simp
theorem SS{K C:Int}{c:Cl}(a:1<=K/\K<=4)(b:CD c):DJ K C (BE (BJ K C) c)=1-DJ K C c:=by obtain⟨X,Y,Q⟩:=c;rcases c3w a with rfl|rfl|rfl|rfl<;>rcases EW b with h|h|h|h<;>(simp only at h;subst h;simp[DJ,VA,BJ,HH,BE,sq,tq,tb,HM,HP]<;>(repeat' split)<;>omega)
theorem sd_on{c:Cl}{e:Int}(a:CD c)(b:0<=e/\e<3):DJ (DB c.q e) (DF c.x c.y c.q e) (AV c e)=1-DJ (DB c.q e) (DF c.x c.y c.q e) c:=by rw[<-b8x a b];refine SS ?_ a;obtain⟨X,Y,Q⟩:=c;rcases EW a with h|h|h|h<;>rcases GS b with rfl|rfl|rfl<;>(simp only at h;subst h;simp[DB,Hl,tb])
theorem sd_off{K C:Int}{c:Cl}{e:Int}(b:1<=K/\K<=4)(d:CD c)(f:0<=e/\e<3)(h:¬(DB c.q e=K/\DF c.x c.y c.q e=C)):DJ K C (AV c e)=DJ K C c:=by obtain⟨X,Y,Q⟩:=c;rcases c3w b with rfl|rfl|rfl|rfl<;>rcases EW d with a|a|a|a<;>rcases GS f with rfl|rfl|rfl<;>(simp only at a;subst a;simp[DB,DF,Hl,JU,tb]at h;simp[DJ,VA,AV,EI,EK,EM,tb,HM,HP]<;>(repeat' split)<;>omega)
def DK(c:Cl):Int×Int×Int:=(c.x,c.y,c.q)
theorem d5v{c:Cl}{e:Int}(a:CD c)(b:0<=e/\e<3):GQ (DK c) (DK (AV c e))=(DB c.q e,DF c.x c.y c.q e):=by obtain⟨X,Y,Q⟩:=c;rcases EW a with h|h|h|h<;>rcases GS b with rfl|rfl|rfl<;>(simp only at h;subst h;simp[DK,GQ,DB,DF,Hl,JU,AV,EI,EK,EM,tb]<;>(first|omega|(rw[J8 Dx];simp only[Prod.mk.injEq,Nt];omega)))
theorem g0v{c:Cl}{e:Int}(a:CD c)(b:0<=e/\e<3):(⟨(EY (DK c) (DK (AV c e))).1,(EY (DK c) (DK (AV c e))).2.1,(EY (DK c) (DK (AV c e))).2.2⟩:Mv)=LS c e:=by obtain⟨X,Y,Q⟩:=c;rcases EW a with h|h|h|h<;>rcases GS b with rfl|rfl|rfl<;>(simp only at h;subst h;simp[DK,EY,LS,BJ,HH,DB,DF,Hl,JU,AV,EI,EK,EM,tb]<;>(first|omega|(rw[J8 Dx];simp;omega)|skip))
theorem Ut{m:Mv}{c:Cl}(h:vM m)(a:(-4200<=c.x/\c.x<=4200)/\(-4200<=c.y/\c.y<=4200)/\0<=c.q/\c.q<=3):DX m c=BE m c:=Il h a
theorem vM_of{m:Mv}(a:EE m)(hp:OC m)(hx: -16384<=m.x/\m.x<=16384)(hy: -16384<=m.y/\m.y<=16384):vM m:=by unfold EE OC at*;refine⟨a.1,?_⟩;unfold DP;rw[J7 Dx]
theorem Qi{m:Mv}(h:vM m):EE m:=by have:=FT h;unfold EE;omega
theorem th_ok{a b:Mv}(d:vM a)(c:vM b)(g: -16384<=(DN a b).x/\(DN a b).x<=16384)(h: -16384<=(DN a b).y/\(DN a b).y<=16384):Gl a.t a.x a.y b.t b.x b.y=0/\GX a b=DN a b:=by
 have e:=@b46 b.t a.x a.y (FT c);have i:=f7a (FT d) (FT c);have j:=vM_of (f8t (Qi d) (Qi c)) (d70 (PX d).2.2 (PX c).2.2) g h;have f:Gl a.t a.x a.y b.t b.x b.y=0:=by unfold Gl;rw[J7 ⟨d.2,c.2⟩];unfold MD;rw[J7];rw[i,e.1,e.2];exact j.2
 exact⟨f,(Vk d.1 c.1 f).1⟩
theorem ref_M{K C:Int}(b:1<=K/\K<=4)(a: -4096<=C/\C<=4096):El K C=BJ K C/\vM (BJ K C):=by
 rcases c3w b with rfl|rfl|rfl|rfl
 .exact f78 a
 .exact g0k a
 .exact ref_u a
 .exact ref_d a
end Go.Proofs.YtaihldljnlgnoaaGreatDoor.V
