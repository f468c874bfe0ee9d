/-
  Further parts of the proof. Conditions: none.
-/
import Derived.Test.YtlffhjfkaepimaaGreatDoorGec19
set_option maxRecDepth 100000
set_option maxHeartbeats 40000000
namespace Go.Proofs.YtlffhjfkaepimaaGreatDoor.V
open Go
section
variable{p:Pt}
theorem WE{i e:Int}(h:BN p=0)(o:AR p.W p.H i e=0){x:Cr}(hx:x∈p.l)(g:HL (ED p.W p.H i e) x=true):AZ p i e=x.k:=by
 have q:=WG h;have r:JG p i e=0:=by simp[JG,h,o]
 have s:MP p i e=ME p.l (EI p.W p.H i e) (FI p.W p.H i e):=by simp[MP,r]
 unfold AZ;rw[s];unfold ED at g;generalize EI p.W p.H i e=a at*;generalize FI p.W p.H i e=b at*;obtain⟨j,hj,rfl⟩:=Kg.1 hx;have d:a=p.l[j].c/\b=p.l[j].e:=by simpa[HL]using g
 have f:p.l.getD j d0=p.l[j]:=Ht;have m:KH (p.l.getD j d0) a b=0:=by
  rw[f];unfold KH;try unfold IW
  rw[d.1,d.2];simp
 have n:JH p.l a b=j:=c9y p.l j Dz (λk t=>by have:=q k j t hj;rw[f,<-d.1,<-d.2]at this;exact this) (λ_=>Dz)
 have u:ME p.l a b=true:=by unfold ME;rw[n];rw[f]at m;simp[hj,m]
 rw[u,n,f];rfl
theorem c61{i e:Int}(h:BN p=0)(a:AR p.W p.H i e=0)(b:EU p.l (ED p.W p.H i e)=false):AZ p i e=0:=by
 by_cases k:AZ p i e=0
 .exact k
 .have:=(VU h a).2 k;rw[b]at this;cases this
theorem f08{q:List Int}(h:EU p.l q=true):∃x∈p.l,HL q x=true:=K1.1 h
theorem f7v{i e:Int}(h:BN p=0)(j:AR p.W p.H i e=0):OJ p.l (ED p.W p.H i e)=AZ p i e:=by
 cases hc:EU p.l (ED p.W p.H i e)with
 |false=>rw[f6x hc,c61 h j hc]
 |true=>
  have g:∀(l:List Cr) (a:Int),(∀x∈l,HL (ED p.W p.H i e) x=true->x.k=AZ p i e)->(a=AZ p i e\/∃x∈l,HL (ED p.W p.H i e) x=true)->l.foldl (λa c=>if HL (ED p.W p.H i e) c=true then c.k else a) a=AZ p i e:=by
   intro l;induction l with
   |nil=>
    intro a _ b;rcases b with b|⟨x,hx,_⟩
    .exact b
    .simp at hx
   |cons y l n=>
    intro a m b;rw[Mk];refine n _ (λx hx=>m x (Kd _ hx)) ?_;by_cases d:HL (ED p.W p.H i e) y=true
    .rw[Ji d];exact .inl (m y E2 d)
    .rw[Jj d];rcases b with b|⟨x,hx,f⟩
     .exact .inl b
     .rcases Jv.1 hx with rfl|hx
      .exact absurd f d
      .exact .inr ⟨x,hx,f⟩
  exact g p.l 0 (λx hx f=>(WE h j hx f).symm) (.inr (f08 hc))
end
def EG(q e:Int):Nat:=if e=0 then 0 else if(q=0\/q=2)↔e=1 then 1 else 2
theorem RH{q e:Int}:EG q e<3:=by
 unfold EG;split
 .omega
 .split<;>omega
theorem Xv{q e:Int}(a:0<=q/\q<=3)(b:0<=e/\e<3)(k:Nat)(hk:k<3):kE q k=e↔k=EG q e:=by have c:k=0\/k=1\/k=2:=Dz;rcases ET a with rfl|rfl|rfl|rfl<;>rcases HI b with rfl|rfl|rfl<;>rcases c with rfl|rfl|rfl<;>simp[kE,EG]
theorem Ue{q e:Int}(a:0<=q/\q<=3)(b:0<=e/\e<3):kE q (EG q e)=e:=(Xv a b _ RH).2 rfl
abbrev uA(j:Nat):Int:=((j/3:Nat):Int)
abbrev uE(j:Nat):Int:=kE (uA j%4) ((j%3:Nat):Int)
def LC(W H:Int)(l:List Cr)(j:Nat):Int:=if AR W H (uA j) (uE j)=0 then OJ l (ED W H (uA j) (uE j))else 0
def JS(p:Pt):List Int:=(List.range (3*AF p.W p.H)).map λj=>LC p.W p.H p.l j
section
variable{p:Pt}
theorem d46(h:BN p=0)(m:∀c∈p.l,AD .u8 c.e){c:Cr}(i:c∈p.l):AW p c.c/\(0<=c.e/\c.e<3)/\AR p.W p.H c.c c.e=0/\EI p.W p.H c.c c.e=c.c:=by
 obtain⟨hs,_,n,_⟩:=FN h;have d:=K2.1 n c i;unfold Pk at d;simp only[Kp,N8,L8,Bool.and_eq_false_iff,not_or,Classical.not_not]at d;obtain⟨a,o,_⟩:=d;have hx:=m c i;have j:IL p.W p.H c.c=0/\FU (BV p.W p.H c.c) (BW p.W p.H c.c) (BZ p.W p.H c.c) c.e=0:=by
  unfold AR at a;split at a
  .rename_i f;refine⟨f,?_⟩;split at a
   .assumption
   .cases a
  .rename_i f;exact absurd a f
 have b:=j.1;unfold IL at b;have qx:CM p.W p.H=4*p.W*p.H:=Fv;have g:=j.2;unfold FU at g;refine⟨?_,⟨hx.1,?_⟩,a,o⟩
 .rw[Ji hs]at b;split at b
  .rename_i k;unfold Qy at k;unfold AW;simp only[J3]at k;omega
  .cases b
 .split at g
  .rename_i e2;omega
  .cases g
theorem Xw{a:Int}{k:Nat}(h0:0<=a)(hk:k<3):uA (3*a+k).toNat=a/\(3*a+k).toNat%3=k:=by
 constructor
 .show (((3*a+k).toNat/3:Nat):Int)=a;omega
 .omega
theorem uMul(j:Nat):(3*uA j+((j%3:Nat):Int)).toNat=j:=by show (3*((j/3:Nat):Int)+((j%3:Nat):Int)).toNat=j;omega
theorem PH{a:Int}:0<=a%4/\a%4<=3:=Dz
theorem f12(h:BN p=0)(C:∀c∈p.l,AD .u8 c.e){i:Nat}(hi:i<p.l.length){c:Cr}(t:p.l.getD i d0=c){n:Int}(u:AE p.W p.H c.c c.e=n){j:Nat}(hj:j<3*AF p.W p.H):
 LC p.W p.H (p.l.take (i+1)) j=if j=(3*c.c+EG (c.c%4) c.e).toNat\/j=(3*n+EG (n%4) c.e).toNat then c.k else LC p.W p.H (p.l.take i) j:=by
 have hs:=(FN h).1;have hN:=CG hs;have E:c∈p.l:=by rw[<-t];exact DP hi
 obtain⟨c1,f,m,F⟩:=d46 h C E;obtain⟨⟨o,G⟩,_⟩:=GU hs c1.1 c1.2 f m;obtain⟨v,I⟩:=Rh hs c1.1 c1.2 f m;have w:=c34 hs c1.1 c1.2 f m;rw[u]at o G v I w;have x:0<=uA j/\uA j<4*p.W*p.H:=⟨by show (0:Int)<=((j/3:Nat):Int);omega,by show ((j/3:Nat):Int)<_;omega⟩
 have J:j%3<3:=Dz;have y:ED p.W p.H c.c c.e=[c.c,c.e]:=by unfold ED FI;rw[F,if_pos m]
 unfold LC;by_cases a:AR p.W p.H (uA j) (uE j)=0
 .rw[Ji a,Ji a,c9x hi,t];have r:(HL (ED p.W p.H (uA j) (uE j)) c=true)↔(j=(3*c.c+EG (c.c%4) c.e).toNat\/j=(3*n+EG (n%4) c.e).toNat):=by
   unfold HL;rw[Ju];constructor
   .intro e;have K:ED p.W p.H (uA j) (uE j)=[min (uA j) (AE p.W p.H (uA j) (uE j)),uE j]:=by unfold ED EI FI;rw[if_pos a,if_pos a]
    rw[K]at e;simp only[J9]at e;obtain⟨e1,z⟩:=e;obtain⟨b1,L⟩:=Rh hs x.1 x.2 NR a;have g:uA j=c.c\/AE p.W p.H (uA j) (uE j)=c.c:=Dz;have A:j%3=EG (uA j%4) c.e:=(Xv PH f _ J).1 z;rcases g with s|s
    .left;rw[<-s,<-A];exact(uMul j).symm
    .right;have B:n=uA j:=by
      have q:AE p.W p.H (AE p.W p.H (uA j) (uE j)) (uE j)=uA j:=L;rw[s,show uE j=c.e from z,u]at q;exact q
     have M:EG (n%4) c.e=j%3:=by rw[B];exact A.symm
     rw[M,B];exact(uMul j).symm
   .rintro(e|e)
    .obtain⟨b,d⟩:=Xw c1.1 (RH (q:=c.c%4) (e:=c.e));rw[<-e]at b d;unfold uE;rw[b,d,Ue PH f,y]
    .obtain⟨b,d⟩:=Xw o (RH (q:=n%4) (e:=c.e));rw[<-e]at b d;unfold uE;rw[b,d,Ue PH f,w,y]
  simp only[r]
 .rw[Jj a,Jj a,Jj];rintro(e|e)
  .obtain⟨b,d⟩:=Xw c1.1 (RH (q:=c.c%4) (e:=c.e));rw[<-e]at b d;unfold uE at a;rw[b,d,Ue PH f]at a;exact a m
  .obtain⟨b,d⟩:=Xw o (RH (q:=n%4) (e:=c.e));rw[<-e]at b d;unfold uE at a;rw[b,d,Ue PH f]at a;exact a v
theorem d7a(b:BN p=0){j:Nat}(a:AR p.W p.H (uA j) (uE j)=0):LC p.W p.H p.l j=AZ p (uA j) (uE j):=by unfold LC;rw[Ji a];exact f7v b a
theorem tab_0(j:Nat)(W H:Int):LC W H [] j=0:=by unfold LC;split<;>rfl
theorem d9b{W H a e:Int}(b:0<=e/\e<3)(c:AR W H a e=0):BP W H a (EG (a%4) e)=AE W H a e:=by unfold BP;rw[Ue PH b,Ji c]
end
def Va(W H a b:Int):Int:=if BP W H a 1=b\/BP W H a 2=b then(if a%4+b%4=1\/a%4+b%4=5 then 1 else 2)else 0
theorem c1c{W H a e b:Int}(hs:AV W H=0)(d:0<=a/\a<4*W*H)(i:0<=e/\e<3)(l:AR W H a e=0)(r:AE W H a e=b):Va W H a b=e:=by
 subst r;have s:=LZ hs d.1 d.2;have nb:=GU hs d.1 d.2 i l;have t:=KZ hs d.1 d.2;have u:=KZ hs nb.1.1 nb.1.2;have m:(AK W H a).q=a%4:=by rw[t]
 have n:(AK W H (AE W H a e)).q=AE W H a e%4:=by rw[u]
 have f:=s.2.2.1;rw[nb.2]at n;have one:∀k:Int,(0<=k/\k<3)->BP W H a k=AE W H a e->kE (a%4) k=e:=by
  intro k hk h;unfold BP at h;split at h
  .rename_i v;have o:=(GU hs d.1 d.2 NR v).2;rw[h,nb.2]at o;exact(b77 f i NR o).symm
  .have:=nb.1.1;omega
 have two:∀k:Int,kE (a%4) k=e->BP W H a k=AE W H a e:=by intro k h;unfold BP;rw[h,Ji l]
 rw[m]at f;unfold Va;rw[<-n];generalize AK W H a=c at*;obtain⟨X,Y,Q⟩:=c;have g:Q=a%4:=m;rcases HI i with rfl|rfl|rfl
 .rw[Jj];rintro(q|q)
  .have:=one 1 Dz q;unfold kE at this;split at this
   .omega
   .split at this<;>omega
  .have:=one 2 Dz q;unfold kE at this;split at this
   .omega
   .split at this<;>omega
 .have j:BP W H a 1=AE W H a 1\/BP W H a 2=AE W H a 1:=by
   rcases ET f with h|h|h|h
   .exact Cm
   .exact Cn
   .exact Cm
   .exact Cn
  rw[Ji j,Ji];rcases ET f with h|h|h|h<;>(rw[h]at g⊢;subst g;simp[AO,EY,tb])
 .have j:BP W H a 1=AE W H a 2\/BP W H a 2=AE W H a 2:=by
   rcases ET f with h|h|h|h
   .exact Cn
   .exact Cm
   .exact Cn
   .exact Cm
  rw[Ji j,Jj];rcases ET f with h|h|h|h<;>(rw[h]at g⊢;subst g;simp[AO,EY,tb])
theorem b3c(a:Int)(l:List Int)(v:Int):CA (a::l) v=if a=v then 0 else if 0<=CA l v then CA l v+1 else -1:=by
 unfold CA;rw[List.findIdx?_cons];by_cases h:a=v
 .simp[h]
 .simp only[h,decide_false,J5];cases l.findIdx? (λx=>decide (x=v))with
  |none=>simp
  |some i=>simp
theorem LS:∀{l:List Int} {v:Int},0<=CA l v↔v∈l
 | [],v=>by simp[CA]
 |a::l,v=>by
  rw[b3c,Jv];have:=@LS l v;by_cases h:a=v
  .rw[Ji h];simp[h]
  .rw[Jj h,<-this];have b:¬v=a:=λe=>h e.symm;simp only[b,false_or];split<;>omega
theorem Ou:∀{l:List Int} {x y:Int},0<=CA l x->CA l x<CA l y->DM l x y
 | [],x,y,h,_=>by simp[CA]at h
 |a::l,x,y,c,b=>by
  rw[b3c]at c b;rw[b3c]at b;by_cases d:a=y
  .rw[Ji d]at b;split at c<;>(try split at c)<;>(try split at b)<;>omega
  .rw[Jj d]at b;by_cases hx:a=x
   .rw[Ji hx]at b;refine Ql.2 (.inl ⟨hx.symm,LS.1 ?_⟩);split at b<;>omega
   .rw[Jj hx]at c b;refine Ql.2 (.inr (Ou ?_ ?_))<;>(split at c<;>split at b<;>omega)
theorem g31{l:List Int}{x y:Int}(h:0<=CA l x)(e:CA l x=CA l y):x=y:=by
 induction l with
 |nil=>simp[CA]at h
 |cons a l c=>
  rw[b3c]at h e;rw[b3c]at e;by_cases hx:a=x
  .rw[Ji hx]at e;by_cases b:a=y
   .exact hx.symm.trans b
   .rw[Jj b]at e;split at e<;>omega
  .rw[Jj hx]at h e;by_cases b:a=y
   .rw[Ji b]at e;split at e<;>omega
   .rw[Jj b]at e;refine c ?_ ?_<;>(split at h<;>split at e<;>omega)
section
variable{p:Pt}{r:Mv}{L:List Stk}
theorem Rf(S:SkOK p r L){u:Int}(a:AW p u):DA p r u=AU p (AL p r) u/\∀e,(0<=e/\e<3)->GR p r u e=CN p (AL p r) u e:=by
 obtain⟨g1,b,g3⟩:=VC S a.1 a.2;have c:=XX S.hs a.1 a.2;refine⟨?_,λe d=> ?_⟩
 .rw[g1,YU b Dz];rfl
 .have:=NT c.2.2 d;unfold GR CN;exact YU b Dz
theorem f9n(S:SkOK p r L){s:Sm}(hs:SmOK p r s){x:Pa}(hx:x∈s.ps):(∃e,DI p x.a e/\AZ p x.a e=0/\BF p x.a e=x.b/\AU p (AL p r) x.a=s.a/\CN p (AL p r) x.a e=s.b)/\∃e,DI p x.b e/\AZ p x.b e=0/\BF p x.b e=x.a/\AU p (AL p r) x.b=s.b/\CN p (AL p r) x.b e=s.a:=by
 obtain⟨⟨j,l⟩,⟨m,n⟩,⟨e,i,o1,q,g⟩,⟨t,o,o2,w,f⟩⟩:=hs.ps x hx;have y:s.a≠s.b:=λh=>by have:=hs.ab;rw[h]at this;have h2:=KQ (Bo s.b) (Bo s.b);omega
 have one:∀(u v e:Int) (c d:Cl),AW p u->(0<=e/\e<3)->AR p.W p.H u e=0->v=AE p.W p.H u e->DA p r u=c->DA p r v=d->c≠d->AZ p u e=0:=by
  intro u v e c d B i C E F G I;by_cases k:AZ p u e=0
  .exact k
  .exfalso;have:=(c2q S B i C k).2.1;rw[<-E,F,G]at this;exact I this.symm
 have z:=Rf S j;have A:=Rf S l;exact⟨⟨e,⟨j,i,q⟩,one _ _ _ _ _ j i q g m n y,g.symm,z.1.symm.trans m,(z.2 e i).symm.trans o1⟩,⟨t,⟨l,o,w⟩,one _ _ _ _ _ l o w f n m (Ne.symm y),f.symm,A.1.symm.trans n,(A.2 t o).symm.trans o2⟩⟩
theorem c5n(S:SkOK p r L){s:Sm}(hs:SmOK p r s){x:Lo}(hx:x∈s.ls):(∃e,DI p x.a e/\AZ p x.a e≠0/\BF p x.a e=x.b/\AU p (AL p r) x.a=DQ s x.s/\CN p (AL p r) x.a e=QU s x.s)/\(∃e,DI p x.b e/\AZ p x.b e≠0/\BF p x.b e=x.a/\AU p (AL p r) x.b=DQ s x.s/\CN p (AL p r) x.b e=QU s x.s):=by
 obtain⟨_,⟨f,g⟩,⟨h,i⟩,⟨e,d,o1,m,n⟩,⟨o,j,o2,q,t⟩⟩:=hs.ls x hx;have one:∀(u v e:Int) (c:Cl),AW p u->(0<=e/\e<3)->AR p.W p.H u e=0->v=AE p.W p.H u e->DA p r u=c->DA p r v=c->AZ p u e≠0:=by intro u v e c l d z A B C k;have:=(c1y S l d z k).2.1;rw[<-A,C,<-B]at this;exact(b6d S l.1 l.2 d).2.1 this.symm
 have w:=Rf S f;have y:=Rf S g;exact⟨⟨e,⟨f,d,m⟩,one _ _ _ _ f d m n h i,n.symm,w.1.symm.trans h,(w.2 e d).symm.trans o1⟩,⟨o,⟨g,j,q⟩,one _ _ _ _ g j q t i h,t.symm,y.1.symm.trans i,(y.2 o j).symm.trans o2⟩⟩
theorem c7s(b:Bd):∀k,∀s∈FL b k,∀x∈s.ls,b.ht.getD x.a.toNat 0<=b.ht.getD x.b.toNat 0
 |0,s,hs=>by simp[FL]at hs
 |k+1,s,hs=>by
  have i:=c7s b k;have f:∀(T:List Sm) (x y:Cl),(∀s∈T,∀z∈s.ls,b.ht.getD z.a.toNat 0<=b.ht.getD z.b.toNat 0)->∀s∈EK T x y,∀z∈s.ls,b.ht.getD z.a.toNat 0<=b.ht.getD z.b.toNat 0:=by
   intro T x y h s hs z c;unfold EK at hs;split at hs
   .exact h s hs z c
   .rcases K6.1 hs with hs|hs
    .exact h s hs z c
    .simp only[Kb]at hs;subst hs;simp at c
  have g:∀(u e:Int) (s:Sm),(∀z∈s.ls,b.ht.getD z.a.toNat 0<=b.ht.getD z.b.toNat 0)->∀z∈(JX b u e s).ls,b.ht.getD z.a.toNat 0<=b.ht.getD z.b.toNat 0:=by
   intro u e s h z c;unfold JX at c;split at c
   .split at c
    .exact h z c
    .split at c
     .exact h z c
     .rcases K6.1 c with c|c
      .exact h z c
      .simp only[Kb]at c;subst c;dsimp only;split<;>omega
   .exact h z c
  have hs':s∈Ho b ((k/3:Nat):Int) ((k%3:Nat):Int) (FL b k):=hs;unfold Ho at hs';rcases mem_set hs' with rfl|hs'
  .refine g _ _ _ ?_;have j:=WZ (FL b k) (FM b ((k/3:Nat):Int)) (GK b ((k/3:Nat):Int) ((k%3:Nat):Int));exact f _ _ _ i _ (DP (d:=BM) (Oh j))
  .exact f _ _ _ i s hs'
theorem d3d(S:SkOK p r L)(h:EO p r L=0){s:Sm}(hs:s∈GT p r L):SmOK p r s/\∀x∈s.ls,(IY L (AF p.W p.H)).getD x.a.toNat 0<=(IY L (AF p.W p.H)).getD x.b.toNat 0:=by
 obtain⟨i,g,rfl⟩:=OX (d:=BM) hs;have e:i<(EH p r L).length:=by rw[<-c0i h];exact g
 rw[c5m h e];have f:=DP (d:=BM) (Oh (WU e));generalize (HU p r L).getD (EC (HU p r L) (qK (EH p r L) i)) BM=t at*;have c:=Ye S _ (Jp _) t f;refine⟨⟨c.ab,c.va,c.vb,λx hx=> ?_,λx hx=> ?_,λx hx=>c.en x ((d92 _ _).1 hx)⟩,λx hx=> ?_⟩
 .exact c.ps x ((Qn _ _ _).1 hx)
 .exact c.ls x ((Qn _ _ _).1 hx)
 .exact c7s (CW p r L) _ t f x ((Qn _ _ _).1 hx)
theorem c3t(S:SkOK p r L):StkF p (AL p r) (AP L):=by
 have b:∀i j,i<L.length->j<L.length->(L.getD i AA.d).c=(L.getD j AA.d).c->i=j:=by
  intro i j a g e;rcases My i j with h|h|h
  .have:=S.lt i j h g;rw[e]at this;have m:=KQ (Bo (L.getD j AA.d).c) (Bo (L.getD j AA.d).c);omega
  .exact h
  .have:=S.lt j i h a;rw[e]at this;have m:=KQ (Bo (L.getD j AA.d).c) (Bo (L.getD j AA.d).c);omega
 have n:∀i,i<L.length->AP L (L.getD i AA.d).c=(L.getD i AA.d).l:=λi a=>b4f a (λj g e=>by have:=b j i Dz a e;omega) rfl;have q:∀c,(∃i,i<L.length/\(L.getD i AA.d).c=c)\/AP L c=[]:=λc=>by
  by_cases h:∃i,i<L.length/\(L.getD i AA.d).c=c
  .exact .inl h
  .exact .inr (c2t λj g e=>h ⟨j,g,e⟩)
 refine⟨λc=> ?_,λc v=> ?_⟩
 .rcases q c with⟨i,a,rfl⟩|h
  .rw[n i a];have:=S.nd;unfold BD at this;rw[List.Nodup,List.pairwise_flatMap]at this;exact this.1 _ (DP a)
  .rw[h];exact Nt
 .constructor
  .intro f;rcases q c with⟨i,a,rfl⟩|h
   .rw[n i a]at f;have s:=DP (d:=AA.d) a;have t:AW p v:=S.rg v (List.mem_flatMap.2 ⟨_,s,f⟩);refine⟨t,?_⟩;rw[<-(Rf S t).1];exact S.im _ s _ f
   .rw[h]at f;simp at f
  .rintro⟨o,m⟩;obtain⟨i,k,a,u,w,x⟩:=Wn S o.1 o.2;rw[<-(Rf S o).1]at m;have y:(L.getD i AA.d).c=c:=x.symm.trans m;rw[<-y,n i a,<-w];exact DP u
end
section
variable{p:Pt}{r:Mv}{L:List Stk}
theorem g0c{l:List Int}(h:l.Nodup){j k:Nat}(b:j<k)(a:k<l.length):l.getD j 0≠l.getD k 0:=by rw[Jg,Jg,Jh Dz,Jh a];rw[List.Nodup,Kx]at h;exact h j k Dz a b
theorem f6b(S:SkOK p r L){u:Int}(a:AW p u):(IY L (AF p.W p.H)).getD u.toNat 0=CA (AP L (AU p (AL p r) u)) u:=by
 have F:=c3t S;obtain⟨i,k,b,f,g,q⟩:=Wn S a.1 a.2;have s:=DP (d:=AA.d) b;have m:=g1t S s f;rw[g]at m;rw[m];have t:AU p (AL p r) u=(L.getD i AA.d).c:=by rw[<-(Rf S a).1];exact q
 have n:AP L (L.getD i AA.d).c=(L.getD i AA.d).l:=by refine b4f b (λj h e=> ?_) rfl;have:=S.lt j i h b;rw[e]at this;have h2:=KQ (Bo (L.getD i AA.d).c) (Bo (L.getD i AA.d).c);omega
 have o:=F.nd (L.getD i AA.d).c;rw[n]at o;rw[t,n];refine(c8w f (λj h e=> ?_) g).symm;rw[<-g]at e;exact g0c o h f e
theorem lo_or(S:SkOK p r L){s:Sm}(hs:SmOK p r s){d:Int}{x:Lo}(hx:x∈s.ls)(m:x.s=d):∃a k,DI p a k/\AZ p a k≠0/\AU p (AL p r) a=DQ s d/\CN p (AL p r) a k=QU s d/\(QW (AP L (DQ s d)) x).a=CA (AP L (DQ s d)) a/\(QW (AP L (DQ s d)) x).b=CA (AP L (DQ s d)) (BF p a k)/\a∈AP L (DQ s d)/\BF p a k∈AP L (DQ s d):=by
 subst m;have F:=c3t S;obtain⟨⟨e,c,n,f,g,o⟩,q,g1,t,h,i,u⟩:=c5n S hs hx;have j:x.a∈AP L (DQ s x.s):=(F.mem _ _).2 ⟨c.1,g⟩;have l:x.b∈AP L (DQ s x.s):=(F.mem _ _).2 ⟨g1.1,i⟩;by_cases bj:CA (AP L (DQ s x.s)) x.a<=CA (AP L (DQ s x.s)) x.b
 .refine⟨x.a,e,c,n,g,o,?_,?_,j,by rw[f];exact l⟩
  .show min _ _=_;omega
  .show max _ _=_;rw[f];omega
 .refine⟨x.b,q,g1,t,i,u,?_,?_,l,by rw[h];exact j⟩
  .show min _ _=_;omega
  .show max _ _=_;rw[h];omega
theorem sp_mem{s:Sm}{d:Int}{l:List Int}{y:Pa}(h:y∈Tm s d l):∃x∈s.ls,x.s=d/\y=QW l x:=by unfold Tm IR at h;obtain⟨x,hx,rfl⟩:=Jx.1 h;simp only[Ki,Ju]at hx;exact⟨x,hx.1,hx.2,rfl⟩
theorem RX(S:SkOK p r L){s:Sm}(hs:SmOK p r s){d:Int}(f:d=0\/d=1){x:Pa}(hx:x∈s.ps):∃e,DI p (GC d x) e/\AZ p (GC d x) e=0/\BF p (GC d x) e=GC (1-d) x/\AU p (AL p r) (GC d x)=DQ s d/\CN p (AL p r) (GC d x) e=QU s d/\GC d x∈AP L (DQ s d):=by
 have F:=c3t S;obtain⟨⟨e,a,g,h,b,i⟩,j,g1,k,l,c,m⟩:=f9n S hs hx;rcases f with rfl|rfl
 .exact⟨e,a,g,h,b,i,(F.mem _ _).2 ⟨a.1,b⟩⟩
 .exact⟨j,g1,k,l,c,m,(F.mem _ _).2 ⟨g1.1,c⟩⟩
theorem b72{s:Sm}(d:Nat)(a:d=0\/d=1):crC s d=DQ s d:=by rcases a with rfl|rfl<;>rfl
theorem cr_ok(S:SkOK p r L)(N:NcG p (AL p r) (AP L)){s:Sm}(hs:SmOK p r s):OD s L=0:=by
 have F:=c3t S;have R:∀d:Nat,d=0\/d=1->Rq s L d=true:=by
  intro d l;unfold Rq spG Vk Uy;rw[Ke];constructor
  .rw[Jr];intro x hx;obtain⟨e,_,_,_,_,_,o⟩:=RX S hs (d:=(d:Int)) Dz hx;rw[b72 d l];exact K3 (LS.2 o)
  .rw[Jr];intro x hx;unfold IR at hx;simp only[Ki,Ju]at hx;obtain⟨⟨e,g,T,h3,h4,h5⟩,e',g1,g2,g3,g4,g5⟩:=c5n S hs hx.1;rw[b72 d l,<-hx.2];rw[Ke];exact⟨K3 (LS.2 ((F.mem _ _).2 ⟨g.1,h4⟩)),K3 (LS.2 ((F.mem _ _).2 ⟨g1.1,g4⟩))⟩
 have hB:SR s=false:=by unfold SR;rw[K2];intro x hx;obtain⟨y,hy,rfl⟩:=Jx.1 hx;have:=(hs.ls y hy).1;unfold SK;simp only[Ju];omega
 have U:∀d:Nat,d=0\/d=1->KW (FE s L d) (EF s L d)=false:=by
  intro d l;have fq:(d:Int)=0\/(d:Int)=1:=Dz;unfold KW;rw[K2];intro i C c;have q:i<(FE s L d).length:=Kk.1 C;have one:∀j,j<(FE s L d).length->∃a k,DI p a k/\AZ p a k≠0/\AU p (AL p r) a=DQ s d/\CN p (AL p r) a k=QU s d/\((FE s L d).getD j CK.d).a=CA (AP L (DQ s d)) a/\((FE s L d).getD j CK.d).b=CA (AP L (DQ s d)) (BF p a k)/\a∈AP L (DQ s d)/\BF p a k∈AP L (DQ s d):=by intro j t;have o:=DP (d:=CK.d) t;generalize (FE s L d).getD j CK.d=y at*;unfold FE at o;rw[b72 d l]at o;obtain⟨x,hx,jm,rfl⟩:=sp_mem o;exact lo_or S hs hx jm
  obtain⟨a,k,E,G,H,I,V,W,J,mb⟩:=one i q;unfold SF at c;rw[Kp]at c;rcases c with c|c
  .obtain⟨h,X,c⟩:=K1.1 c;unfold EF Ov at X;obtain⟨z,K,rfl⟩:=Jx.1 X;rw[b72 d l]at c;obtain⟨e,z1,z2,z3,Y,z5,z6⟩:=RX S hs fq K;unfold RG at c;rw[Ke,Ju,Ju,V,W]at c;refine N.pl (GC d z) e a k z1 E z2 G (I.trans z5.symm) ?_ ?_
   .rw[Y];exact Ou (LS.2 J) c.1
   .rw[Y];exact Ou (LS.2 z6) c.2
  .obtain⟨j,t,c⟩:=K1.1 c;have bi:=Kk.1 t;obtain⟨b,m,Z,kb,M,ob,fa,fb,na,nb⟩:=one j Dz;unfold Rg at c;rw[Kp,Ke,Ke,Ke,Ke,Ju,Ju,Ju,Ju,Ju,Ju,V,W,fa,fb]at c;rcases c with⟨⟨c1,O⟩,P⟩|⟨⟨c1,O⟩,P⟩
   .refine N.ll a k b m E Z G kb (I.trans ob.symm) ?_ ?_ ?_
    .rw[H];exact Ou (LS.2 J) c1
    .rw[H];exact Ou (LS.2 na) O
    .rw[H];exact Ou (LS.2 mb) P
   .refine N.ll b m a k Z E kb G (ob.trans I.symm) ?_ ?_ ?_
    .rw[M];exact Ou (LS.2 na) c1
    .rw[M];exact Ou (LS.2 J) O
    .rw[M];exact Ou (LS.2 nb) P
 have hN:RR (EF s L 0) (EF s L 1) s.ps.length=false:=by
  unfold RR;rw[K2];intro i C c;have q:=Kk.1 C;obtain⟨j,t,c⟩:=K1.1 c;have bi:=Kk.1 t;have A:=DP (d:=CK.d) q;have B:=DP (d:=CK.d) (show j<s.ps.length from Dz);have f:∀(d:Nat) (n:Nat),d=0\/d=1->n<s.ps.length->(EF s L d).getD n AC.d=CA (AP L (DQ s d)) (GC d (s.ps.getD n CK.d)):=by intro d n l hn;unfold EF Ov;rw[b72 d l];simp[hn]
  unfold Ww at c;rw[Ju,f 0 i (.inl rfl) q,f 0 j (.inl rfl) Dz,f 1 i (.inr rfl) q,f 1 j (.inr rfl) Dz]at c;generalize s.ps.getD i CK.d=x at*;generalize s.ps.getD j CK.d=y at*;obtain⟨e,x1,x2,x3,x4,Q,x6⟩:=RX S hs (.inl rfl) A;obtain⟨k,y1,y2,y3,y4,y5,y6⟩:=RX S hs (.inl rfl) B;obtain⟨e',u1,u2,u3,u4,u5,u6⟩:=RX S hs (.inr rfl) A;obtain⟨k',v1,v2,v3,v4,v5,v6⟩:=RX S hs (.inr rfl) B;have u:∀z w:Pa,z∈s.ps->w∈s.ps->CA (AP L (DQ s 0)) (GC 0 z)<CA (AP L (DQ s 0)) (GC 0 w)->CA (AP L (DQ s 1)) (GC 1 w)<CA (AP L (DQ s 1)) (GC 1 z)->False:=by intro z w K hw g T;obtain⟨e,x1,x2,x3,x4,Q,x6⟩:=RX S hs (.inl rfl) K;obtain⟨k,y1,y2,y3,y4,y5,y6⟩:=RX S hs (.inl rfl) hw;obtain⟨k',v1,v2,v3,v4,v5,v6⟩:=RX S hs (.inr rfl) hw;have b1:=N.pp _ _ _ _ x1 y1 x2 y2 (Q.trans y5.symm) (by rw[x4];exact Ou (LS.2 x6) g);rw[Q,x3,y3]at b1;exact c0z (F.nd _) b1 (Ou (LS.2 v6) T)
  unfold CC at c;by_cases g:CA (AP L (DQ s 0)) (GC 0 x)<CA (AP L (DQ s 0)) (GC 0 y)
  .refine u x y A B g ?_;have v:CA (AP L (DQ s ((0:Nat):Int))) (GC ((0:Nat):Int) x)<CA (AP L (DQ s ((0:Nat):Int))) (GC ((0:Nat):Int) y):=g;rw[Ji v]at c;show CA (AP L (DQ s ((1:Nat):Int))) (GC ((1:Nat):Int) y)<CA (AP L (DQ s ((1:Nat):Int))) (GC ((1:Nat):Int) x);split at c
   .omega
   .split at c
    .omega
    .omega
  .refine u y x B A ?_ ?_
   .have v:¬CA (AP L (DQ s ((0:Nat):Int))) (GC ((0:Nat):Int) x)<CA (AP L (DQ s ((0:Nat):Int))) (GC ((0:Nat):Int) y):=g;rw[Jj v]at c;show CA (AP L (DQ s ((0:Nat):Int))) (GC ((0:Nat):Int) y)<CA (AP L (DQ s ((0:Nat):Int))) (GC ((0:Nat):Int) x);split at c
    .omega
    .omega
   .have v:¬CA (AP L (DQ s ((0:Nat):Int))) (GC ((0:Nat):Int) x)<CA (AP L (DQ s ((0:Nat):Int))) (GC ((0:Nat):Int) y):=g;rw[Jj v]at c;show CA (AP L (DQ s ((1:Nat):Int))) (GC ((1:Nat):Int) x)<CA (AP L (DQ s ((1:Nat):Int))) (GC ((1:Nat):Int) y);split at c
    .split at c
     .omega
     .split at c<;>omega
    .omega
 unfold OD;rw[R 0 (.inl rfl),R 1 (.inr rfl),hB];have hF:Pw s L 2=false:=by show (KW (FE s L 0) (EF s L 0)||KW (FE s L 1) (EF s L 1))=false;rw[U 0 (.inl rfl),U 1 (.inr rfl)];rfl
 rw[hF,hN];rfl
theorem crs_ok(S:SkOK p r L)(h:EO p r L=0)(N:NcG p (AL p r) (AP L)):Ot L (GT p r L)=0:=by unfold Ot;rw[Jj];intro a;obtain⟨s,hs,a⟩:=K1.1 a;rw[cr_ok S N (d3d S h hs).1]at a;cases a
theorem f75{W H a b e:Int}(hs:AV W H=0)(d:0<=a/\a<4*W*H)(g:0<=e/\e<3)(j:AR W H a e=0)(k:AE W H a e=b):Pr W H a b=some e:=by
 have c:∀f,(0<=f/\f<3)->JC W H a b f=true->f=e:=by intro f l h;unfold JC at h;rw[Ke,Ju,Ju]at h;have c1:=(GU hs d.1 d.2 l h.1).2;have m:=(GU hs d.1 d.2 g j).2;rw[h.2]at c1;rw[k,c1]at m;exact b77 (LZ hs d.1 d.2).2.2.1 l g m
 have i:JC W H a b e=true:=by unfold JC;rw[j,k];simp
 unfold Pr;rcases HI g with rfl|rfl|rfl
 .rw[Ji i]
 .rw[Jj (λh=>by have:=c 0 Dz h;omega),Ji i]
 .rw[Jj (λh=>by have:=c 0 Dz h;omega),Jj (λh=>by have:=c 1 Dz h;omega),Ji i]
theorem se_ok(S:SkOK p r L)(h:EO p r L=0)(w:BN p=0)(D:Uz p (AL p r) (AP L)):PN p (FW p r) (OJ p.l) (GT p r L)=false:=by
 have F:=c3t S;have hN:=CG S.hs;unfold PN;rw[K2];intro s hs i;obtain⟨x,hx,i⟩:=K1.1 i;obtain⟨z,A⟩:=d3d S h hs;obtain⟨⟨e,c,B,k,m,h5⟩,e',g1,g2,g3,C,g5⟩:=c5n S z hx;have n:x.a∈AP L (DQ s x.s):=(F.mem _ _).2 ⟨c.1,m⟩;have o:=A x hx;rw[f6b S c.1,f6b S g1.1,m,C]at o;have E:x.a≠x.b:=λq=>by have u:=(LD S.hs c.1 c.2.1 c.2.2).2.1;have j:AE p.W p.H x.a e=x.b:=k;rw[j,<-q]at u;exact c35 (LZ S.hs c.1.1 c.1.2).2.2.1 c.2.1 u.symm
 have G:CA (AP L (DQ s x.s)) x.a<CA (AP L (DQ s x.s)) x.b:=by
  rcases Int.lt_or_eq_of_le o with q|q
  .exact q
  .exact absurd (g31 (LS.2 n) q) E
 have I:=Ou (LS.2 n) G;have v:=D x.a e c B (by rw[m,k];exact I);rw[k]at v;have j:AE p.W p.H x.a e=x.b:=k;have J:(Ui p (FW p r) x).1=ED p.W p.H x.a e:=by
  have f:=LD S.hs c.1 c.2.1 c.2.2;rw[j]at f;unfold Ui ED EI FI Yp creG;rw[Ji c.2.2,Ji c.2.2,j];rcases Int.le_total x.a x.b with q|q
  .have:Pr p.W p.H (min x.a x.b) (max x.a x.b)=some e:=by
    rw[Int.min_eq_left q,Int.max_eq_right q];exact f75 S.hs c.1 c.2.1 c.2.2 j
   rw[this];rfl
  .have:Pr p.W p.H (min x.a x.b) (max x.a x.b)=some e:=by
    rw[Int.min_eq_right q,Int.max_eq_left q];exact f75 S.hs f.1 c.2.1 f.2.2.1 f.2.2.2
   rw[this];rfl
 have g:(Ui p (FW p r) x).2=AZ p x.a e:=by
  show Yc (FW p r) x.b=_;rw[v];have K:=S.P.vm x.b.toNat (by have:=g1.1;unfold AW at this;omega)
  have M:x.b.toNat<(Bl p r).length:=by rw[S.P.pl];have:=g1.1;unfold AW at this;omega
  have N:(FW p r).getD x.b.toNat EJ.d=SI (AL p r x.b):=by unfold FW AL;rw[Jg,Jg,K9,Jh M];rfl
  have O:(SI (AL p r x.b)=true)↔(AL p r x.b).t<4:=by have Q:Do (AL p r x.b).t (AL p r x.b).x (AL p r x.b).y=0:=K.2;unfold SI;rw[Q];simp
  unfold Yc;rw[N];simp only[O]
 unfold d62 at i;rw[J,g,f7v w c.2.2]at i;simp at i
theorem chk_ok(h:EO p r L=0)(a:0<=r.t)(b:∀s∈L,AD .u8 s.c.q)(N:NcG p (AL p r) (AP L))(D:Uz p (AL p r) (AP L)):CL p r L=0:=by have S:=Xa h a b;have d:BN p=0:=(Og (VG h).1).1;unfold CL;rw[Jj (λq=>q h),Jj (λq=>q (crs_ok S h N)),Jj];rw[se_ok S h d D];decide
end
section
variable{W H:Int}{has:List Int->Bool}{Q:Nat->Mv}
structure RelG (W H:Int) (has:List Int->Bool) (Q:Nat->Mv):Prop where
 z:Q 0=AG.d
 cr:∀(i e:Int),(0<=i/\i<4*W*H)->(0<=e/\e<3)->AR W H i e=0->Q (AE W H i e).toNat=if has (ED W H i e)=true then DW (MU (AK W H i) e) (Q i.toNat)else Q i.toNat
def XJ(Q:Nat->Mv)(s:BS):Prop:=∀j:Nat,s.kn.getD j false=true->s.out.getD j AG.d=Q j
theorem c18(hs:AV W H=0){m:Mv}{i e:Int}(hi:0<=i/\i<4*W*H)(a:0<=e/\e<3)(g:AR W H i e=0)(c:vM m)(hx:HR m (AK W H i) 1024):KF W H has m i e=if has (ED W H i e)=true then DW (MU (AK W H i) e) m else m:=by
 rw[b2p hs hi.1 hi.2 a g];have b:=Qh hs hi.1 hi.2;cases has (ED W H i e)with
 |false=>rfl
 |true=>
  simp only[N9,L1];obtain⟨d,r2,r3,f⟩:=@b8z (AK W H i) e a Dz;have qk:=c8m c b hx Dz;have j:=@f60 m.t (CD (DH (AK W H i).q e) (DK (AK W H i).x (AK W H i).y (AK W H i).q e)).x (CD (DH (AK W H i).q e) (DK (AK W H i).x (AK W H i).y (AK W H i).q e)).y f.1 f.2;have k:1<=DH (AK W H i).q e/\DH (AK W H i).q e<=4:=by rcases ET b.2.2 with h|h|h|h<;>rcases HI a with rfl|rfl|rfl<;>(rw[h];simp[DH,Il,tb])
  have l: -4096<=DK (AK W H i).x (AK W H i).y (AK W H i).q e/\DK (AK W H i).x (AK W H i).y (AK W H i).q e<=4096:=by rcases ET b.2.2 with h|h|h|h<;>rcases HI a with rfl|rfl|rfl<;>(rw[h];simp[DK,Il,KS,tb];omega)
  have n:=g13 k l;rw[n.1]at d j⊢;refine(f92 d c ?_ ?_).2
  .show -16384<=(AM m.t _ _).1+m.x/\(AM m.t _ _).1+m.x<=16384;omega
  .show -16384<=(AM m.t _ _).2+m.y/\(AM m.t _ _).2+m.y<=16384;omega
theorem d8m{s:BS}(hs:AV W H=0)(h:BI W H s){i:Int}(h0:0<=i)(b:s.kn.getD i.toNat false=true):vM (s.out.getD i.toNat AG.d)/\HR (s.out.getD i.toNat AG.d) (AK W H i) 1024:=by have hN:=CG hs;have a:=h.kn _ b;rw[show ((i.toNat:Nat):Int)=i from Dz]at a;have:s.kn.count true<=s.kn.length:=List.count_le_length;have h2:=h.kl;exact⟨a.1,c0k a.2 Dz⟩
theorem f2e(hs:AV W H=0)(G:RelG W H has Q){s:BS}{i e:Int}(h:BI W H s)(J:XJ Q s)(hi:0<=i/\i<4*W*H)(b:s.kn.getD i.toNat false=true)(f:0<=e/\e<3):
 ∃c,NF W H has s i e=some c/\XJ Q c/\2*Ko c+c.wt.length<=2*Ko s+s.wt.length:=by
 by_cases a:AR W H i e=0
 .have hN:=CG hs;have mr:=(GU hs hi.1 hi.2 f a).1;obtain⟨k,l⟩:=d8m hs h hi.1 b;have g:=c18 (has:=has) hs hi f a k l;rw[J _ b,<-G.cr i e hi f a]at g;rw[J _ b]at k l;cases hb:s.kn.getD (AE W H i e).toNat false with
  |true=>
   rw[b24 a hb,J _ b,g,J _ hb,Ji rfl];exact⟨s,rfl,J,Jp _⟩
  |false=>
   have m:(AE W H i e).toNat<s.out.length:=by rw[h.ol];omega
   have n:(AE W H i e).toNat<s.kn.length:=by rw[h.kl];omega
   rw[c3u a hb m,J _ b,g];refine⟨_,rfl,λj d=> ?_,?_⟩
   .simp only at d⊢;rw[OE n]at d;rw[OE m];by_cases e:j=(AE W H i e).toNat
    .rw[Ji e,e]
    .rw[Jj e]at d⊢;exact J j d
   .have:=b2z n hb;show 2*(s.kn.set _ true).count false+(s.wt++[_]).length<=2*s.kn.count false+s.wt.length;rw[K8,M9];omega
 .refine⟨s,?_,J,Jp _⟩;unfold NF;rw[Jj a]
theorem d07(hs:AV W H=0)(G:RelG W H has Q){i:Int}(hi:0<=i/\i<4*W*H):∀(l:List Int) {s:BS},(∀e∈l,0<=e/\e<3)->BI W H s->XJ Q s->s.kn.getD i.toNat false=true->
 ∃a,Of W H has i l s=some a/\XJ Q a/\2*Ko a+a.wt.length<=2*Ko s+s.wt.length
 | [],s,_,_,J,_=>⟨s,rfl,J,Jp _⟩
 |e::l,s,b,h,J,c=>by obtain⟨s1,d,f,m1⟩:=f2e hs G h J hi c (b e E2);obtain⟨g,j,_⟩:=b8j hs h hi.1 hi.2 c (b e E2) d;obtain⟨k,m,n,m2⟩:=d07 hs G hi l (λx hx=>b x Ej) g f (j.kn _ c).1;refine⟨k,?_,n,Dz⟩;simp only[Of,d,M7];exact m
theorem f7x(hs:AV W H=0)(G:RelG W H has Q):∀(f:Nat) {s:BS},BI W H s->XJ Q s->2*Ko s+s.wt.length<=f->(Kl W H has f s).isSome=true
 |0,s,_,_,b=>by have:s.wt=[]:=Lj Dz;rw[c1i this];rfl
 |f+1,s,h,J,b=>by
  cases hw:s.wt with
  |nil=>rw[c1i hw];rfl
  |cons i r=>
   rw[b9n hw];obtain⟨a,c⟩:=h.wt i (by rw[hw];simp);have d:BI W H ⟨s.out,s.kn,r⟩:=⟨h.ol,h.kl,λj m=>h.wt j (by rw[hw];exact Kd _ m),h.kn⟩
   have g:∀e∈([0,1,2]:List Int),0<=e/\e<3:=λe n=>by simp at n;omega
   obtain⟨k,l,o,q⟩:=d07 hs G a [0,1,2] (s:=⟨s.out,s.kn,r⟩) g d J c;obtain⟨t,_⟩:=b3j hs a.1 a.2 [0,1,2] g d c l;rw[l,M7];refine f7x hs G f t o ?_;rw[hw,Kz]at b;have:2*Ko k+k.wt.length<=2*Ko s+r.length:=q;omega
end
theorem c3c{f:Nat->Int}:∀{n i:Nat},(∀j,i<=j->j<i+n->f j=0)->Ml f n i=0
 |0,_,_=>rfl
 |n+1,i,h=>by simp only[Ml];rw[Ji (h i (Jp _) Dz)];exact c3c λj h1 h2=>h j Dz Dz
section
variable{p:Pt}{r:Mv}{P:Int->Mv}
theorem bs0_I(hs:AV p.W p.H=0):BI p.W p.H (FY (AF p.W p.H)):=by
 have hN:=CG hs;refine⟨Fu,Fu,λi c=> ?_,λj e=> ?_⟩
 .have:i=0:=by simpa[FY]using c
  subst this;refine⟨Dz,?_⟩;show ((List.replicate _ false).set 0 true).getD 0 false=true;rw[Oi _ _ Dz];rfl
 .have a:((List.replicate (AF p.W p.H) false).set 0 true).getD j false=true:=e;rw[Oi _ _ Dz]at a;have:j=0:=L0 a;subst this;have Pd:1<=(FY (AF p.W p.H)).kn.count true:=by
   have:true∈(FY (AF p.W p.H)).kn:=by show true∈(List.replicate (AF p.W p.H) false).set 0 true;exact List.mem_set Eb _
   exact List.count_pos_iff.2 this
  have f:(FY (AF p.W p.H)).out.getD 0 AG.d=AG.d:=Xo _ _ _;rw[f];have b:vM AG.d:=⟨E4,E4⟩
  refine⟨b,?_⟩;have hc:=Qh hs (i:=((0:Nat):Int)) Dz Dz;have g:=KZ hs (i:=((0:Nat):Int)) Dz Dz;unfold HR;rw[JR b Dz,g];simp[sq,AG]<;>omega
theorem c8y(hs:AV p.W p.H=0)(a:JM p=0):(BC p).getD 0 AG.d=AG.d:=by
 have hN:=CG hs;have c:=bs0_I hs;cases hb:OW p with
 |none=>unfold JM at a;rw[hb]at a;cases a
 |some l=>
  have e:BC p=l:=by simp[BC,hb]
  have f:Kl p.W p.H (EU p.l) (2*AF p.W p.H+1) (FY (AF p.W p.H))=some l:=hb;have g:Wp p.W p.H (EU p.l) (FY (AF p.W p.H)):=by intro j i;have b:((List.replicate (AF p.W p.H) false).set 0 true).getD j false=true:=i;rw[Oi _ _ Dz]at b;have:j=0:=L0 b;subst this;exact .inl Fu
  obtain⟨s',k,_,_,_,m⟩:=c1s hs _ c g f;have n:(FY (AF p.W p.H)).kn.getD 0 false=true:=by show ((List.replicate _ false).set 0 true).getD 0 false=true;rw[Oi _ _ Dz];rfl
  rw[e,<-k,(m 0 n).2];exact Xo _ _ _
theorem g30(w:BN p=0)(G:PlcG p P)(J:P 0=r)(v:∀i,AW p i->vM (P i)/\vC (AU p P i)):CH p r=0/\∀i,AW p i->AL p r i=P i:=by
 have hs:=(FN w).1;have hN:=CG hs;have in0:AW p 0:=⟨Ms _,Dz⟩
 have A:vM r:=by rw[<-J];exact(v 0 in0).1
 have o:=QT A;have R:RelG p.W p.H (EU p.l) (λn=>DW (P n) (SJ r)):=by
  refine⟨?_,λi e hi g b=> ?_⟩
  .show DW (P 0) (SJ r)=AG.d;rw[J,(d75 o).1];rfl
  .have nb:=(GU hs hi.1 hi.2 g b).1;have B:=G.cr i e hi g b;have C:(((AE p.W p.H i e).toNat:Nat):Int)=AE p.W p.H i e:=Dz;have Q:((i.toNat:Nat):Int)=i:=Dz;simp only[C,Q];rw[B];have m:=VU w b;by_cases k:AZ p i e=0
   .rw[Ji k,Jj (λq=>(m.1 q) k)]
   .rw[Jj k,Ji (m.2 k)];exact Xb KB (G.ok i hi).1 (inv_t o)
 have S:=bs0_I hs;have T:XJ (λn=>DW (P n) (SJ r)) (FY (AF p.W p.H)):=by intro j a;have K:((List.replicate (AF p.W p.H) false).set 0 true).getD j false=true:=a;rw[Oi _ _ Dz]at K;have:j=0:=L0 K;subst this;have U:(FY (AF p.W p.H)).out.getD 0 AG.d=AG.d:=Xo _ _ _;rw[U];exact R.z.symm
 have E:JM p=0:=by
  unfold JM;have:OW p=Kl p.W p.H (EU p.l) (2*AF p.W p.H+1) (FY (AF p.W p.H)):=rfl;rw[this,Ji];refine f7x hs R _ S T ?_;have:Ko (FY (AF p.W p.H))<=AF p.W p.H:=by unfold Ko;refine Lr List.count_le_length ?_;simp[FY]
  have:(FY (AF p.W p.H)).wt.length=1:=rfl;omega
 obtain⟨L,rel⟩:=b5q hs E;have s:=c8y hs E;have u:∀j:Nat,j<AF p.W p.H->(BC p).getD j AG.d=DW (P j) (SJ r):=by
  have:=b3k (kn:=λj=>decide (j<AF p.W p.H)&&decide ((BC p).getD j AG.d=DW (P j) (SJ r))) hs (λi e g m b=> ?_) ?_
  .intro j a;have:=this j a;simp only[J3]at this;exact this.2
  .simp only[J3]at m⊢;have nb:=(GU hs (i:=(i:Int)) Dz Dz g b).1;refine⟨Dz,?_⟩;obtain⟨⟨V,X⟩,Y⟩:=rel i m.1;rw[Y e g b,c18 hs ⟨Dz,Dz⟩ g b V X,m.2,R.cr (i:Int) e ⟨Dz,Dz⟩ g b];rfl
  .simp only[J3];refine⟨Dz,?_⟩;rw[s];exact R.z.symm
 have c:∀j:Nat,j<AF p.W p.H->Gl ((BC p).getD j AG.d).t ((BC p).getD j AG.d).x ((BC p).getD j AG.d).y r.t r.x r.y=0/\JA ((BC p).getD j AG.d) r=P j:=by
  intro j a;have f:AW p (j:Int):=⟨Dz,Dz⟩
  have F:DW ((BC p).getD j AG.d) r=P j:=by rw[u j a,Xb (G.ok _ f).1 (inv_t o) o,(d75 o).2,(d50 (G.ok _ f).1).1]
  have M:=QI (v _ f).1;have:=f92 (rel j a).1.1 A (by rw[F];exact M.1) (by rw[F];exact M.2.1);rw[F]at this;exact this
 have I:∀j:Nat,j<AF p.W p.H->KE p r j=0:=by
  intro j a;have f:AW p (j:Int):=⟨Dz,Dz⟩
  obtain⟨Z,t2⟩:=c j a;unfold KE XV;rw[Ji Z,t2];unfold TG HM;have B:=Qh hs f.1 f.2;have N:=(v _ f).1;have sf:BG (BV p.W p.H j) (BW p.W p.H j) (BZ p.W p.H j)=0:=by have h1:(0<=BV p.W p.H j/\BV p.W p.H j<=300)/\(0<=BW p.W p.H j/\BW p.W p.H j<=300)/\0<=BZ p.W p.H j/\BZ p.W p.H j<=3:=B;unfold BG;rw[Ji Dz]
  rw[Ji ⟨N.2,sf⟩,Ji];have hi:=(v _ f).2;have C:AU p P (j:Int)=EA (P j) (AK p.W p.H j):=(YU N Dz).symm;rw[C]at hi;have b8:(-4096<=MB (P j).t (P j).x (P j).y (BV p.W p.H j) (BW p.W p.H j)/\MB (P j).t (P j).x (P j).y (BV p.W p.H j) (BW p.W p.H j)<=4096)/\(-4096<=MV (P j).t (P j).x (P j).y (BV p.W p.H j) (BW p.W p.H j)/\MV (P j).t (P j).x (P j).y (BV p.W p.H j) (BW p.W p.H j)<=4096)/\0<=LJ (P j).t (BZ p.W p.H j)/\LJ (P j).t (BZ p.W p.H j)<=3:=hi;unfold BG;rw[Ji Dz]
 have O:CH p r=0:=by unfold CH;rw[Ji w,Ji A.2,Ji E];exact c3c (λi _ hi=>I i (by rw[<-L];omega))
 refine⟨O,λi hi=> ?_⟩;obtain⟨_,pr⟩:=Xz O;have a:i.toNat<AF p.W p.H:=I1;unfold AL;rw[pr _ (by rw[L];exact a)];unfold LY;rw[(c _ a).2,show ((i.toNat:Nat):Int)=i by have:=hi.1;omega]
theorem f6w(n:0<=r.t)(h:CH p r=0):PlcG p (AL p r)/\AL p r 0=r/\∀i,AW p i->vM (AL p r i):=by
 obtain⟨o,E,s,F⟩:=Og h;have hs:=(FN o).1;have hN:=CG hs;obtain⟨G,rel⟩:=b5q hs s;obtain⟨_,u⟩:=Xz h;rw[G]at u;have I:vM r:=⟨n,E⟩
 have v:=QT I;have b:∀j:Nat,j<AF p.W p.H->AL p r (j:Int)=DW ((BC p).getD j AG.d) r/\vM (AL p r (j:Int)):=by
  intro j f;have l:=F j Dz;unfold KE at l;have c:Gl ((BC p).getD j AG.d).t ((BC p).getD j AG.d).x ((BC p).getD j AG.d).y r.t r.x r.y=0:=by
   split at l
   .rename_i c;exact c
   .rename_i c;exact absurd l c
  have w:=Wz (rel j f).1.1.1 n c;have J:AL p r (j:Int)=JA ((BC p).getD j AG.d) r:=by unfold AL;rw[K0,u j f];rfl
  rw[J];exact⟨w.1,w.2.2.2⟩
 have a:∀i,AW p i->AL p r i=DW ((BC p).getD i.toNat AG.d) r/\vM (AL p r i):=λi hi=>by have:=b i.toNat I1;rw[show ((i.toNat:Nat):Int)=i by have:=hi.1;omega]at this;exact this
 refine⟨⟨λi hi=>⟨QT (a i hi).2,(QI (a i hi).2).2.2⟩,λi e hi m g=> ?_⟩,?_,λi hi=>(a i hi).2⟩
 .have nb:=(GU hs hi.1 hi.2 m g).1;have f:i.toNat<AF p.W p.H:=I1;have K:((i.toNat:Nat):Int)=i:=by have:=hi.1;omega
  obtain⟨⟨z,A⟩,B⟩:=rel i.toNat f;rw[K]at A B;have hx:=B e m g;rw[c18 hs hi m g z A]at hx;rw[(a _ nb).1,(a i hi).1,hx];have C:=VU o g;by_cases k:AZ p i e=0
  .rw[Ji k,Jj (λq=>(C.1 q) k)]
  .rw[Jj k,Ji (C.2 k)];exact Xb KB (QT z) v
 .have in0:AW p 0:=⟨Ms _,Dz⟩
  rw[(a 0 in0).1];have:(BC p).getD (0:Int).toNat AG.d=CX:=c8y hs s;rw[this,(d50 v).2]
end
structure StG (p:Pt) (r:Mv) (L:List Stk) (P:Int->Mv) (B:Int):Prop where
 hp:BN p=0
 G:PlcG p P
 r0:P 0=r
 bd:∀i,AW p i->(-B<=(AU p P i).x/\(AU p P i).x<=B)/\ -B<=(AU p P i).y/\(AU p P i).y<=B
 lt:∀i j,i<j->j<L.length->BA (Bo (L.getD i AA.d).c) (Bo (L.getD j AA.d).c)<0
 ne:∀s∈L,s.l≠[]
 S:StkF p P (AP L)
 N:NcG p P (AP L)
 D:Uz p P (AP L)
theorem d0p{L:List Stk}(lt:∀i j,i<j->j<L.length->BA (Bo (L.getD i AA.d).c) (Bo (L.getD j AA.d).c)<0):CV L:=by unfold CV;rw[List.Nodup,Kx];intro i j b a h e;rw[Kh]at b a;rw[Mq,Mq]at e;have:=lt i j h a;rw[Jg,Jg,Jh b,Jh a]at this;simp only[L5]at this;rw[e]at this;have h2:=KQ (Bo L[j].c) (Bo L[j].c);omega
theorem f6q:∀{l:List Int},l.Nodup->LR l=false
 | [],_=>rfl
 |x::l,h=>by obtain⟨h1,a⟩:=Lp.1 h;simp only[LR,M6];exact⟨Fn,f6q a⟩
theorem f61:∀(n:Nat) (l:List Int),(∀x:Int,0<=x->x<n->x∈l)->n<=l.length
 |0,_,_=>Jw _
 |n+1,l,h=>by have a:=h (n:Int) Dz Dz;have:=f61 n (l.erase (n:Int)) (λx b h1=>(List.mem_erase_of_ne Dz).2 (h x b Dz));rw[List.length_erase_of_mem a]at this;have h2:=List.length_pos_of_mem a;omega
section
variable{p:Pt}{P Q:Int->Mv}{f:Cl->List Int}
theorem VN(h:∀i,AW p i->Q i=P i){i:Int}(hi:AW p i):AU p Q i=AU p P i:=by unfold AU;rw[h i hi]
theorem VM(h:∀i,AW p i->Q i=P i){i e:Int}(hi:AW p i):CN p Q i e=CN p P i e:=by unfold CN;rw[h i hi]
theorem nc_cg(h:∀i,AW p i->Q i=P i)(N:NcG p P f):NcG p Q f:=by
 refine⟨λi e j k c s q u d l=> ?_,λi e a k c g q r d n o=> ?_,λa k b m g l r kb d n o t=> ?_⟩
 .rw[VM h c.1,VM h s.1]at d;rw[VN h c.1]at l;rw[VM h c.1];exact N.pp i e j k c s q u d l
 .rw[VM h c.1,VM h g.1]at d;rw[VN h c.1]at n o;exact N.pl i e a k c g q r d n o
 .rw[VM h g.1,VM h l.1]at d;rw[VN h g.1]at n o t;exact N.ll a k b m g l r kb d n o t
theorem kd_cg(hs:AV p.W p.H=0)(h:∀i,AW p i->Q i=P i)(D:Uz p P f):Uz p Q f:=by intro a k b d c;rw[VN h b.1]at c;rw[h _ (LD hs b.1 b.2.1 b.2.2).1];exact D a k b d c
end
namespace StG
variable{p:Pt}{r:Mv}{L:List Stk}{P:Int->Mv}{B:Int}
theorem hs(X:StG p r L P B):AV p.W p.H=0:=(FN X.hp).1
theorem cells(X:StG p r L P B):CV L:=d0p X.lt
theorem at_(X:StG p r L P B){s:Stk}(hs:s∈L):AP L s.c=s.l:=PU X.cells hs
theorem inSt(X:StG p r L P B){s:Stk}(hs:s∈L){v:Int}(a:v∈s.l):AW p v/\AU p P v=s.c:=(X.S.mem s.c v).1 (by rw[X.at_ hs];exact a)
theorem one(X:StG p r L P B){s:Stk}(hs:s∈L):∃v,v∈s.l/\AW p v/\AU p P v=s.c:=by
 cases hl:s.l with
 |nil=>exact absurd hl (X.ne s hs)
 |cons v l=>
  have a:v∈s.l:=by rw[hl];simp
  exact⟨v,by simp,X.inSt hs a⟩
theorem cQ(X:StG p r L P B){s:Stk}(hs:s∈L):DF s.c:=by obtain⟨v,_,a,b⟩:=X.one hs;rw[<-b];exact NG X.hs X.G a
theorem cB(X:StG p r L P B){s:Stk}(hs:s∈L):(-B<=s.c.x/\s.c.x<=B)/\ -B<=s.c.y/\s.c.y<=B:=by obtain⟨v,_,a,b⟩:=X.one hs;rw[<-b];exact X.bd v a
theorem vm(X:StG p r L P B)(hB:B<=4000){i:Int}(hi:AW p i):vM (P i)/\vC (AU p P i):=by
 obtain⟨b,c⟩:=X.G.ok i hi;have a:=X.bd i hi;have d:=NG X.hs X.G hi;have hc:=Qh X.hs hi.1 hi.2;have hx:AU p P i=⟨(sq (P i).t (AK p.W p.H i).x (AK p.W p.H i).y).1+(P i).x,(sq (P i).t (AK p.W p.H i).x (AK p.W p.H i).y).2+(P i).y,tq (P i).t (AK p.W p.H i).q⟩:=rfl;have hsq:(-400<=(sq (P i).t (AK p.W p.H i).x (AK p.W p.H i).y).1/\(sq (P i).t (AK p.W p.H i).x (AK p.W p.H i).y).1<=400)/\ -400<=(sq (P i).t (AK p.W p.H i).x (AK p.W p.H i).y).2/\(sq (P i).t (AK p.W p.H i).x (AK p.W p.H i).y).2<=400:=by
  unfold sq;repeat' split
  all_goals(dsimp only;omega)
 refine⟨vM_of b c ?_ ?_,?_⟩
 .rw[hx]at a;simp only at a;omega
 .rw[hx]at a;simp only at a;omega
 .unfold vC;unfold DF at d;omega
theorem places(X:StG p r L P B)(a:B<=4000):CH p r=0/\∀i,AW p i->AL p r i=P i:=g30 X.hp X.G X.r0 λ_ b=>X.vm a b
theorem flat_mem(X:StG p r L P B)(v:Int):v∈BD L↔AW p v:=by
 unfold BD;rw[List.mem_flatMap];constructor
 .rintro⟨s,hs,a⟩;exact(X.inSt hs a).1
 .intro a;have h:=(X.S.mem (AU p P v) v).2 ⟨a,rfl⟩;rcases Qp L (AU p P v)with⟨s,hs,e⟩|b
  .rw[<-e,X.at_ hs]at h;exact⟨s,hs,h⟩
  .rw[b]at h;simp at h
theorem flat_nd(X:StG p r L P B):(BD L).Nodup:=by
 unfold BD;rw[List.Nodup,List.pairwise_flatMap];refine⟨λs hs=> ?_,?_⟩
 .have:=X.S.nd s.c;rw[X.at_ hs]at this;exact this
 .have a:=X.cells;unfold CV at a;rw[List.Nodup,List.pairwise_map]at a;refine a.imp_of_mem λ{s t} hs b d x hx y f e=> ?_;subst e;exact d ((X.inSt hs hx).2.symm.trans (X.inSt b f).2)
theorem sk(X:StG p r L P B)(u:B<=4000):EO p r L=0:=by
 have hs:=X.hs;have hN:=CG hs;have hc:CM p.W p.H=4*p.W*p.H:=by unfold CM;rw[if_pos hs]
 obtain⟨w,C⟩:=X.places u;have E:0<=r.t:=by rw[<-X.r0];exact(X.G.ok 0 ⟨Int.le_refl _,by omega⟩).1.1
 have F:=UO E w;have I:MH p.W p.H L=0:=by
  unfold MH;rw[if_pos hs,if_neg,if_neg,if_neg]
  .have:AF p.W p.H<=(BD L).length:=f61 _ _ λx z J=>(X.flat_mem x).2 ⟨z,by omega⟩;omega
  .rw[f6q X.flat_nd];decide
  .intro f;obtain⟨i,j,f⟩:=List.any_eq_true.1 f;have A:=List.mem_range.1 j;have k:=DP (d:=AA.d) A;have m:=X.cQ k;have K:=X.cB k;have M:=X.ne _ k;unfold DF at m;unfold Oe at f;have N:BG (L.getD i AA.d).c.x (L.getD i AA.d).c.y (L.getD i AA.d).c.q=0:=by unfold BG;rw[if_pos (by omega)]
   have O:(decide (0<(i:Int))&&decide (0<=GM (L.getD ((i:Int)-1).toNat AA.d).c.x (L.getD ((i:Int)-1).toNat AA.d).c.y (L.getD ((i:Int)-1).toNat AA.d).c.q (L.getD i AA.d).c.x (L.getD i AA.d).c.y (L.getD i AA.d).c.q))=false:=by
    by_cases z:0<i
    .have:=X.lt ((i:Int)-1).toNat i (by omega) A;rw[<-WB]at this;rw[Bool.and_eq_false_iff];right;exact decide_eq_false (by omega)
    .rw[decide_eq_false (by omega)];rfl
   have Q:decide (((L.getD i AA.d).l.length:Int)=0)=false:=decide_eq_false λh=>M (List.eq_nil_of_length_eq_zero (by omega));have R:(L.getD i AA.d).l.any (On (CM p.W p.H))=false:=by rw[List.any_eq_false];intro v o;have g:=(X.inSt k o).1;unfold AW at g;unfold On;rw[Bool.or_eq_true,decide_eq_true_eq,decide_eq_true_eq];omega
   rw[N,O,Q,R]at f;simp at f
 unfold EO;rw[if_pos w,if_pos I,if_neg,if_neg]
 .intro f;obtain⟨s,n,f⟩:=List.any_eq_true.1 f;obtain⟨e,S,f⟩:=List.any_eq_true.1 f;have du:=List.mem_range.1 S;have m:=X.cQ n;have K:=X.cB n;have T:=@NT s.c (e:Int) m (by omega);unfold RQ at f;unfold DF at m;have:FU s.c.x s.c.y s.c.q e=0:=by
   have J:(-4096<=EP s.c.q e+s.c.x/\EP s.c.q e+s.c.x<=4096)/\(-4096<=ER s.c.q e+s.c.y/\ER s.c.q e+s.c.y<=4096)/\0<=EY s.c.q e/\EY s.c.q e<=3:=by have a:(AO s.c e).x=EP s.c.q e+s.c.x:=rfl;have b:(AO s.c e).y=ER s.c.q e+s.c.y:=rfl;have c:(AO s.c e).q=EY s.c.q e:=rfl;rw[a,b,c]at T;omega
   unfold FU;rw[if_pos ⟨by unfold BG;rw[if_pos (by omega)],by omega⟩,if_pos];unfold BG;rw[if_pos (by omega)]
  rw[this]at f;simp at f
 .intro f;obtain⟨s,n,f⟩:=List.any_eq_true.1 f;obtain⟨v,o,f⟩:=List.any_eq_true.1 f;obtain⟨g,U⟩:=X.inSt n o;have V:((v.toNat:Nat):Int)=v:=by have:=g.1;omega
  have j:=(F.im v.toNat (by have:=g.1;have:=g.2;omega)).1;rw[V]at j;have Y:=X.vm u g;have Z:(Bl p r).getD v.toNat AG.d=P v:=C v g;have hw:=Qh hs g.1 g.2;rw[Z,YU Y.1 (by omega)]at j;unfold Ox at f;rw[j]at f;have:BR (P v) (AK p.W p.H v)=s.c:=U;rw[this]at f;simp at f
theorem valid(X:StG p r L P B)(a:B<=4000):CL p r L=0:=by
 have h:=X.sk a;obtain⟨h1,b⟩:=X.places a;have hs:=X.hs;have hN:=CG hs;refine chk_ok h ?_ (λs d=> ?_) (nc_cg b X.N) (kd_cg hs b X.D)
 .rw[<-X.r0];exact(X.G.ok 0 ⟨Int.le_refl _,by omega⟩).1.1
 .have:=X.cQ d;unfold DF at this;exact⟨this.1,by show s.c.q<=255;omega⟩
end StG
def LP(x y:Cr):Bool:=decide (x.c<y.c)||(decide (x.c=y.c)&&decide (x.e<y.e))
theorem d02(x y:Cr):LP x y=decide (BA (FV x) (FV y)<0):=by
 have:BA (FV x) (FV y)<0↔x.c<y.c\/x.c=y.c/\x.e<y.e:=by
  simp only[FV,BA,CC];repeat' split
  all_goals omega
 unfold LP;rw[Lw,Kp,Ke,Ju,Ju,Ju,Ju];exact this.symm
theorem c7n(x y:Cr):IW x.c x.e y.c y.e<0↔BA (FV x) (FV y)<0:=by
 simp only[FV,BA,CC,IW];repeat' split
 all_goals omega
structure Pas where
 a:Int
 b:Int
 K:Int
 C:Int
 deriving DecidableEq
def Pq(p:Pt)(P:Int->Mv)(j:Nat):Option Pas:=
 if BP p.W p.H (uA j) ((j%3:Nat):Int)<uA j\/LC p.W p.H p.l j≠0 then none
 else some ⟨uA j,BP p.W p.H (uA j) ((j%3:Nat):Int),(HC (DN (AU p P (uA j))) (DN (AU p P (BP p.W p.H (uA j) ((j%3:Nat):Int))))).1,(HC (DN (AU p P (uA j))) (DN (AU p P (BP p.W p.H (uA j) ((j%3:Nat):Int))))).2⟩
def HV(p:Pt)(P:Int->Mv)(n:Nat):List Pas:=(List.range n).filterMap (Pq p P)
def Ws(p:Pt)(P:Int->Mv)(over:Bool)(x:Pas):Cr:=⟨x.a,Va p.W p.H x.a x.b,FdG.nkG P over x.a⟩
def PD(K C:Int)(x:Pas):Bool:=decide (x.K=K)&&decide (x.C=C)
def LX(p:Pt)(P:Int->Mv)(K C:Int)(over:Bool):List Cr:=((HV p P (3*AF p.W p.H)).filter (PD K C)).map (Ws p P over)
def OV(l:List Cr):List Cr:=HP d0 LP 0 l.length l
def GL(p:Pt)(P:Int->Mv)(K C:Int)(over:Bool):Pt:=⟨p.W,p.H,OV (p.l++LX p P K C over)⟩
section
variable{p:Pt}{P:Int->Mv}{K C:Int}{over:Bool}
theorem d5s(f:BN p=0)(G:PlcG p P){j:Nat}(hj:j<3*AF p.W p.H){x:Pas}(h:Pq p P j=some x):DI p (uA j) (uE j)/\AZ p (uA j) (uE j)=0/\uA j<BF p (uA j) (uE j)/\x=⟨uA j,BF p (uA j) (uE j),(HC (DN (AU p P (uA j))) (DN (CN p P (uA j) (uE j)))).1,(HC (DN (AU p P (uA j))) (DN (CN p P (uA j) (uE j)))).2⟩:=by
 have hs:=(FN f).1;have hN:=CG hs;have a:AW p (uA j):=⟨by show (0:Int)<=((j/3:Nat):Int);omega,by show ((j/3:Nat):Int)<_;omega⟩
 unfold Pq at h;split at h
 .cases h
 .rename_i g;rw[not_or,Classical.not_not]at g;obtain⟨c1,c⟩:=g;have b:AR p.W p.H (uA j) (uE j)=0:=by
   by_cases q:AR p.W p.H (uA j) (uE j)=0
   .exact q
   .exfalso;have:BP p.W p.H (uA j) ((j%3:Nat):Int)= -1:=Jj q;rw[this]at c1;have:=a.1;omega
  have i:BP p.W p.H (uA j) ((j%3:Nat):Int)=BF p (uA j) (uE j):=Ji b;have k:DI p (uA j) (uE j):=⟨a,NR,b⟩
  rw[d7a f b]at c;rw[i]at c1 h;obtain⟨q1,l,q3⟩:=NS hs G a NR b c;have b9:BF p (uA j) (uE j)≠uA j:=λe=>by have:=(LD hs a NR b).2.1;have m:AE p.W p.H (uA j) (uE j)=uA j:=e;rw[m]at this;exact c35 (ON hs a) NR this.symm
  refine⟨k,c,Dz,?_⟩;have d:AU p P (BF p (uA j) (uE j))=CN p P (uA j) (uE j):=l;rw[d]at h;exact(Km h).symm
theorem g21(g:BN p=0)(G:PlcG p P){a e:Int}(b:DI p a e)(i:AZ p a e=0)(hl:a<BF p a e):∃j,j<3*AF p.W p.H/\uA j=a/\uE j=e/\Pq p P j=some ⟨a,BF p a e,(HC (DN (AU p P a)) (DN (CN p P a e))).1,(HC (DN (AU p P a)) (DN (CN p P a e))).2⟩:=by
 have hs:=(FN g).1;have hN:=CG hs;have k:=b.1;unfold AW at k;obtain⟨c,l⟩:=Xw k.1 (RH (q:=a%4) (e:=e));have qt:=@RH (a%4) e;have d:uE (3*a+EG (a%4) e).toNat=e:=by unfold uE;rw[c,l,Ue PH b.2.1]
 refine⟨(3*a+EG (a%4) e).toNat,Dz,c,d,?_⟩;have n:AR p.W p.H (uA (3*a+EG (a%4) e).toNat) (uE (3*a+EG (a%4) e).toNat)=0:=by rw[c,d];exact b.2.2
 have m:=d7a g n;rw[c,d,i]at m;obtain⟨q1,o,q3⟩:=NS hs G b.1 b.2.1 b.2.2 i;have r:BP p.W p.H a ((EG (a%4) e:Nat):Int)=BF p a e:=d9b b.2.1 b.2.2;have f:AU p P (BF p a e)=CN p P a e:=o;unfold Pq;rw[c,l,r,Jj (by rw[m];omega),f]
theorem TX(g:BN p=0)(G:PlcG p P){x:Pas}:x∈HV p P (3*AF p.W p.H)↔∃a e,DI p a e/\AZ p a e=0/\a<BF p a e/\x=⟨a,BF p a e,(HC (DN (AU p P a)) (DN (CN p P a e))).1,(HC (DN (AU p P a)) (DN (CN p P a e))).2⟩:=by
 unfold HV;rw[Nh];constructor
 .rintro⟨j,b,h⟩;obtain⟨c,d,f,i⟩:=d5s g G (Kk.1 b) h;exact⟨uA j,uE j,c,d,f,i⟩
 .rintro⟨a,e,c,d,f,rfl⟩;obtain⟨j,b,_,_,h⟩:=g21 g G c d f;exact⟨j,Kk.2 b,h⟩
theorem c41(f:BN p=0)(G:PlcG p P){c:Cr}:c∈LX p P K C over↔∃a e,DI p a e/\AZ p a e=0/\a<BF p a e/\JV p P K C a e/\c=⟨a,e,FdG.nkG P over a⟩:=by
 have hs:=(FN f).1;unfold LX;rw[Jx];constructor
 .rintro⟨x,hx,rfl⟩;obtain⟨hx,d⟩:=Ki.1 hx;obtain⟨a,e,b,g,h,rfl⟩:=(TX f G).1 hx;unfold PD at d;rw[Ke,Ju,Ju]at d;refine⟨a,e,b,g,h,Prod.ext d.1 d.2,?_⟩;unfold Ws;simp only;rw[c1c hs b.1 b.2.1 b.2.2 rfl]
 .rintro⟨a,e,b,g,h,d,rfl⟩;refine⟨⟨a,BF p a e,(HC (DN (AU p P a)) (DN (CN p P a e))).1,(HC (DN (AU p P a)) (DN (CN p P a e))).2⟩,Ki.2 ⟨(TX f G).2 ⟨a,e,b,g,h,rfl⟩,?_⟩,?_⟩
  .have i:HC (DN (AU p P a)) (DN (CN p P a e))=(K,C):=d;unfold PD;rw[i];simp
  .unfold Ws;simp only;rw[c1c hs b.1 b.2.1 b.2.2 rfl]
theorem g37{l:List Cr}(h:Td l):(l.map FV).Nodup:=by rw[List.Nodup,Kx];intro i j b a c e;rw[Kh]at b a;rw[Mq,Mq]at e;have:=h i j c a;rw[Jg,Jg,Jh b,Jh a]at this;simp only[L5]at this;rw[c7n,e,UR]at this;omega
theorem nw_nd(b:BN p=0)(G:PlcG p P):((LX p P K C over).map FV).Nodup:=by unfold LX HV;rw[M5,List.Nodup,L2];refine List.Pairwise.filter _ ?_;rw[List.pairwise_filterMap];refine List.Pairwise.imp_of_mem (λ{i j} f g k x hx y l e=> ?_) List.nodup_range;obtain⟨c,x2,x3,rfl⟩:=d5s b G (Kk.1 f) hx;obtain⟨a,y2,y3,rfl⟩:=d5s b G (Kk.1 g) l;have hs:=(FN b).1;simp only[Function.comp_def,FV,Ws,J9]at e;rw[c1c hs c.1 c.2.1 c.2.2 rfl,c1c hs a.1 a.2.1 a.2.2 rfl]at e;have d:uA i=uA j:=e.1;have m:uE i=uE j:=e.2;have k1:i%3=EG (uA j%4) (uE j):=(Xv (q:=uA j%4) PH a.2.1 (i%3) Dz).1 (by rw[<-d];exact m);have k2:j%3=EG (uA j%4) (uE j):=(Xv (q:=uA j%4) PH a.2.1 (j%3) Dz).1 rfl;refine k ?_;rw[<-uMul i,<-uMul j,d,k1,k2]
theorem f3g(d:BN p=0)(G:PlcG p P){c:Cr}(f:c∈LX p P K C over):AW p c.c/\(0<=c.e/\c.e<3)/\AR p.W p.H c.c c.e=0/\EI p.W p.H c.c c.e=c.c/\FI p.W p.H c.c c.e=c.e/\(c.k=1\/c.k=2)/\AZ p c.c c.e=0:=by
 obtain⟨a,e,b,g,h,ho,rfl⟩:=(c41 d G).1 f;refine⟨b.1,b.2.1,b.2.2,?_,?_,?_,g⟩
 .unfold EI;rw[Ji b.2.2];have i:a<AE p.W p.H a e:=h;exact Int.min_eq_left (Int.le_of_lt i)
 .unfold FI;rw[Ji b.2.2]
 .show FdG.nkG P over a=1\/FdG.nkG P over a=2;unfold FdG.nkG;split
  .exact .inr rfl
  .exact .inl rfl
theorem b78(l:List Cr):(OV l).Perm l:=b2g l
theorem d5k(d:BN p=0)(h:∀c∈p.l,AD .u8 c.e)(G:PlcG p P):((p.l++LX p P K C over).map FV).Nodup:=by
 rw[Lv,Mz];refine⟨g37 (WG d),nw_nd d G,λa i b j e=> ?_⟩;subst e;obtain⟨x,hx,rfl⟩:=Jx.1 i;obtain⟨y,k,e⟩:=Jx.1 j;obtain⟨c1,c2,g,m⟩:=d46 d h hx;obtain⟨d1,d2,d3,d4,d5,d6,f⟩:=f3g d G k;simp only[FV,J9]at e;rw[e.1,e.2]at f;have n:HL (ED p.W p.H x.c x.e) x=true:=by unfold HL ED FI;rw[m,Ji g];simp
 rw[WE d g hx n]at f;have:=K2.1 (FN d).2.1 x hx;simp[OH,RW,f]at this
theorem d9y(f:BN p=0)(g:∀c∈p.l,AD .u8 c.e)(G:PlcG p P):BN (GL p P K C over)=0/\∀c∈(GL p P K C over).l,AD .u8 c.e:=by
 obtain⟨hs,o,r,_⟩:=FN f;have s:=b78 (p.l++LX p P K C over);have b:∀c,c∈(GL p P K C over).l↔c∈p.l\/c∈LX p P K C over:=λc=>by show c∈OV _↔_;rw[s.mem_iff,K6]
 refine⟨?_,λc a=> ?_⟩
 .unfold BN;rw[Ji (show AV (GL p P K C over).W (GL p P K C over).H=0 from hs),Jj,Jj,Jj]
  .intro h;obtain⟨i,t,h⟩:=K1.1 h;have b8:=Kk.1 t;unfold PZ at h;rw[Ju]at h;have:=c56 (d:=d0) (lt:=LP) (key:=FV) d02 (d5k (K:=K) (C:=C) (over:=over) f g G) i (i+1) Dz (by show i+1<(GL p P K C over).l.length;omega);have u:=(c7n _ _).2 this;have h3:IW ((GL p P K C over).l.getD i d0).c ((GL p P K C over).l.getD i d0).e ((GL p P K C over).l.getD (i+1) d0).c ((GL p P K C over).l.getD (i+1) d0).e<0:=u;omega
  .intro h;obtain⟨c,a,h⟩:=K1.1 h;rcases(b c).1 a with a|a
   .exact K2.1 r c a h
   .obtain⟨v,w,j,k,m,n,x⟩:=f3g f G a;have y:AR (GL p P K C over).W (GL p P K C over).H c.c c.e=0:=j;have z:EI (GL p P K C over).W (GL p P K C over).H c.c c.e=c.c:=k;have A:FI (GL p P K C over).W (GL p P K C over).H c.c c.e=c.e:=m;unfold Pk at h;rw[y,z,A]at h;simp at h
  .intro h;obtain⟨c,a,h⟩:=K1.1 h;rcases(b c).1 a with a|a
   .exact K2.1 o c a h
   .obtain⟨v,w,j,k,m,n,x⟩:=f3g f G a;unfold OH RW at h;rcases n with q|q<;>(rw[q]at h;simp at h)
 .rcases(b c).1 a with a|a
  .exact g c a
  .have:=(f3g f G a).2.1;exact⟨this.1,by show c.e<=255;omega⟩
theorem d6f(hs:AV p.W p.H=0)(G:PlcG p P){i e:Int}(h:DI p i e)(g:AZ p i e=0):JV p P K C (BF p i e) e↔JV p P K C i e:=by obtain⟨q1,j,k⟩:=NS hs G h.1 h.2.1 h.2.2 g;have d:AU p P (BF p i e)=CN p P i e:=j;have f:CN p P (BF p i e) e=AU p P i:=k;have b:=NG hs G h.1;have a:=Sd (t:=(P i).t) h.2.1;show HC (DN (AU p P (BF p i e))) (DN (CN p P (BF p i e) e))=(K,C)↔HC (DN (AU p P i)) (DN (CN p P i e))=(K,C);rw[d,f,c3i hs G h.1 h.2.1,d03 b a];have:=d03 (c:=AO (AU p P i) (OY (P i).t e)) (f4c b a) a;rw[Wf b a,(d6e b a).1,(d6e b a).2]at this;rw[this]
theorem fd_K(b:BN p=0)(z:∀c∈p.l,AD .u8 c.e)(G:PlcG p P):FdK p (GL p P K C over) P K C (λi _=>FdG.nkG P over i):=by
 obtain⟨hs,A,hn,_⟩:=FN b;obtain⟨r,gc⟩:=d9y (K:=K) (C:=C) (over:=over) b z G;have B:=b78 (p.l++LX p P K C over);have g:∀c,c∈(GL p P K C over).l↔c∈p.l\/c∈LX p P K C over:=λc=>by show c∈OV _↔_;rw[B.mem_iff,K6]
 refine⟨rfl,rfl,λi e n o d=> ?_,λi e=> ?_⟩
 .have s:AR (GL p P K C over).W (GL p P K C over).H i e=0:=d;have m:DI p i e:=⟨n,o,d⟩
  have t:ED p.W p.H i e=[min i (BF p i e),e]:=by unfold ED EI FI;rw[if_pos d,if_pos d]
  by_cases k:AZ p i e=0
  .rw[Jj (λq=>q k)];obtain⟨E,q2,q3⟩:=NS hs G n o d k;have u:P (BF p i e)=P i:=E;by_cases j:JV p P K C i e
   .rw[Ji j];obtain⟨F,I⟩:=Rs hs m;have nq:BF p i e≠i:=λq=>by
     have:=(LD hs n o d).2.1;have J:AE p.W p.H i e=i:=q;rw[J]at this;exact c35 (ON hs n) o this.symm
    have hx:∃x∈LX p P K C over,HL (ED p.W p.H i e) x=true/\x.k=FdG.nkG P over i:=by
     by_cases L:i<BF p i e
     .refine⟨⟨i,e,FdG.nkG P over i⟩,(c41 b G).2 ⟨i,e,m,k,L,j,rfl⟩,?_,rfl⟩;unfold HL;rw[t,Int.min_eq_left Dz];simp
     .refine⟨⟨BF p i e,e,FdG.nkG P over (BF p i e)⟩,(c41 b G).2 ⟨BF p i e,e,F,by rw[Ry hs b m];exact k,by rw[I];omega,(d6f hs G m k).2 j,rfl⟩,?_,?_⟩
      .unfold HL;rw[t,Int.min_eq_right Dz];simp
      .show FdG.nkG P over (BF p i e)=_;unfold FdG.nkG;rw[u]
    obtain⟨x,M,N,v⟩:=hx;have:=WE r s ((g x).2 (.inr M)) N;rw[this,v]
   .rw[Jj j];refine c61 r s ?_;show (GL p P K C over).l.any (HL (ED p.W p.H i e))=false;rw[K2];intro x hx f;rcases(g x).1 hx with hx|hx
    .have w:=WE b d hx f;rw[k]at w;have:=K2.1 A x hx;simp[OH,RW,<-w]at this
    .obtain⟨a,e',w,h2,h3,y,rfl⟩:=(c41 b G).1 hx;unfold HL at f;rw[t,Ju]at f;simp only[J9]at f;obtain⟨jb,rfl⟩:=f;have O:i=a\/BF p i e=a:=Dz;rcases O with rfl|Q
     .exact j y
     .rw[<-Q]at y;exact j ((d6f hs G m k).1 y)
  .rw[Ji k];obtain⟨x,hx,f⟩:=f08 ((VU b d).2 k);rw[WE b d hx f];exact WE r s ((g x).2 (.inl hx)) f
 .show FdG.nkG P over i≠0;unfold FdG.nkG;split<;>omega
end
def Qu(p:Pt)(P:Int->Mv)(K C:Int):Prop:=∃a e,DI p a e/\AZ p a e=0/\JV p P K C a e
section
variable{p:Pt}{r:Mv}{L:List Stk}{P:Int->Mv}{B K C sd:Int}
theorem ci_K{c:Cl}{e:Int}(a:DF c)(b:0<=e/\e<3):1<=DH c.q e/\DH c.q e<=4:=by obtain⟨X,Y,Q⟩:=c;rcases ET a with h|h|h|h<;>rcases HI b with rfl|rfl|rfl<;>(simp only at h;subst h;simp[DH,Il,tb])
theorem ref_bd{c d:Cl}{e:Int}(a:DF c)(b:0<=e/\e<3)(f:(-B<=c.x/\c.x<=B)/\ -B<=c.y/\c.y<=B)(g:(-B<=d.x/\d.x<=B)/\ -B<=d.y/\d.y<=B):(-(3*B+2)<=(BR (BJ (DH c.q e) (DK c.x c.y c.q e)) d).x/\(BR (BJ (DH c.q e) (DK c.x c.y c.q e)) d).x<=3*B+2)/\ -(3*B+2)<=(BR (BJ (DH c.q e) (DK c.x c.y c.q e)) d).y/\(BR (BJ (DH c.q e) (DK c.x c.y c.q e)) d).y<=3*B+2:=by obtain⟨X,Y,Q⟩:=c;obtain⟨Z,W,R⟩:=d;rcases ET a with h|h|h|h<;>rcases HI b with rfl|rfl|rfl<;>(simp only at h f g;subst h;simp[BJ,HY,DH,DK,Il,KS,BR,sq,tb];omega)
theorem g28{over:Bool}(d:1<=K/\K<=4)(a:sd=0\/sd=1)(f:CV L)(g:∀s∈L,DF s.c)(i:∀s∈L,s.l≠[]):AP (KD over K C sd L)=EZ (AP L) K C sd over:=by
 obtain⟨j,h2,k,h4⟩:=@f76 over K C sd L d a f g i;funext c;by_cases b:DF c
 .exact j c b
 .have m:EZ (AP L) K C sd over c=[]:=by unfold EZ;rw[if_neg (λh=>b h.1)]
  rw[m];rcases Qp (KD over K C sd L) c with⟨s,hs,e⟩|h
  .exact absurd (e▸(k s hs).2) b
  .exact h
theorem StG.fold(X:StG p r L P B)(j:∀c∈p.l,AD .u8 c.e)(u:Qu p P K C)(b:sd=0\/sd=1)(over:Bool):(1<=K/\K<=4)/\StG (GL p P K C over) (FP p P K C sd 0) (KD over K C sd L) (FP p P K C sd) (3*B+2):=by
 have hs:=X.hs;obtain⟨a,e,d,ka,v⟩:=u;have k:=NG hs X.G d.1;have m:=Sd (t:=(P a).t) d.2.1;obtain⟨n,w⟩:=(c3e hs X.G d.1 d.2.1).1 v;have f:1<=K/\K<=4:=by rw[<-n];exact ci_K k m
 obtain⟨o,gc⟩:=d9y (K:=K) (C:=C) (over:=over) X.hp j X.G;have D:FdG p (GL p P K C over) P (AP L) K C sd (λi _=>FdG.nkG P over i):=⟨hs,X.hp,X.G,X.S,f,b,fd_K X.hp j X.G⟩
 obtain⟨f1,f2,x,y⟩:=@f76 over K C sd L f b X.cells (λs h=>X.cQ h) X.ne;have g:=@g28 L K C sd over f b X.cells (λs h=>X.cQ h) X.ne;refine⟨f,o,D.G',rfl,λi z=> ?_,y,λs h=>(x s h).1,?_,?_,?_⟩
 .have q:AW p i:=z;have A:=X.bd a d.1;have E:=X.bd i q;have:=ref_bd (B:=B) k m A E;rw[n,w]at this;have F:=Uu (p':=GL p P K C over) (K:=K) (C:=C) (sd:=sd) hs X.G q rfl rfl;rw[F];split
  .exact this
  .omega
 .rw[g];exact D.S' over
 .rw[g];exact D.nc o X.N over
 .rw[g];exact D.kinds over (λi e _ _=>rfl) X.D
end
def DT(W H:Int):List Stk:=(List.range (AF W H)).map λi:Nat=>⟨AK W H (i:Int),[(i:Int)]⟩
theorem g4p{W H:Int}(hs:AV W H=0){i j:Int}(d:0<=i)(h:i<j)(e:j<4*W*H):BA (Bo (AK W H i)) (Bo (AK W H j))<0:=by
 have hw:=JU hs;rw[KZ hs d Dz,KZ hs Dz e];simp only[Bo,BA,CC];have c:=Int.mul_ediv_add_emod (i/4) W;have e2:=Int.mul_ediv_add_emod (j/4) W;have m1:=N2 (i/4) (b:=W) Dz;have m2:=N2 (j/4) (b:=W) Dz;have n1:=N6 (i/4) (b:=W) Dz;have n2:=N6 (j/4) (b:=W) Dz;have f:i/4<=j/4:=Dz;have hy:i/4/W<=j/4/W:=Int.ediv_le_ediv Dz f;by_cases q:i/4/W=j/4/W
 .rw[Ji q];have hx:i/4%W<=j/4%W:=by
   rw[q]at c;omega
  by_cases a:i/4%W=j/4%W
  .rw[Ji a];have:i/4=j/4:=by
    rw[q,a]at c;omega
   have:i%4<j%4:=Dz;rw[Jj Dz,Ji this];decide
  .rw[Jj a,Ji Dz];decide
 .rw[Jj q,Ji Dz];decide
theorem idG_cm{c:Cl}(a:DF c):BR CX c=c:=by obtain⟨x,y,q⟩:=c;rcases ET a with h|h|h|h<;>(simp only at h;subst h;simp[BR,CX,sq,tq,tb])
theorem d4g{W H B:Int}(hs:AV W H=0)(hB:W<=B+1/\H<=B+1):StG ⟨W,H,[]⟩ CX (DT W H) (λ_=>CX) B:=by
 have hN:=CG hs;have z:BN ⟨W,H,[]⟩=0:=by unfold BN;rw[Ji (show AV W H=0 from hs)];simp
 have J:∀i e,AR W H i e=0->AZ ⟨W,H,[]⟩ i e=0:=λi e t=>c61 (p:=⟨W,H,[]⟩) z t rfl;have u:∀i,AW ⟨W,H,[]⟩ i->AU ⟨W,H,[]⟩ (λ_=>CX) i=AK W H i:=λi f=>idG_cm (ON (p:=⟨W,H,[]⟩) hs f);have A:∀i:Nat,i<AF W H->(DT W H).getD i AA.d=⟨AK W H i,[(i:Int)]⟩:=λi f=>by unfold DT;simp[f]
 have K:(DT W H).length=AF W H:=by unfold DT;simp
 have lt:∀i j,i<j->j<(DT W H).length->BA (Bo ((DT W H).getD i AA.d).c) (Bo ((DT W H).getD j AA.d).c)<0:=λi j g o=>by rw[K]at o;rw[A i Dz,A j o];exact g4p hs Dz Dz Dz
 have w:=d0p lt;have mm:∀s∈DT W H,∃i:Nat,i<AF W H/\s=⟨AK W H i,[(i:Int)]⟩:=λs hs'=>by unfold DT at hs';obtain⟨i,f,rfl⟩:=Jx.1 hs';exact⟨i,Kk.1 f,rfl⟩
 have one:∀c,(AP (DT W H) c).length<=1:=λc=>by
  rcases Qp (DT W H) c with⟨s,g,rfl⟩|h
  .rw[PU w g];obtain⟨i,_,rfl⟩:=mm s g;exact C2
  .rw[h];exact Jw _
 have n:∀c x y,¬DM (AP (DT W H) c) x y:=λc x y h=>by have:=h.length_le;have:=one c;simp at*;omega
 refine⟨z,⟨λi f=>⟨by unfold GE CX;simp,by unfold RK CX;simp⟩,λi e f he t=>by rw[if_pos (J i e t)]⟩,rfl,λi f=> ?_,lt,λs hs'=> ?_,⟨λc=> ?_,λc v=> ?_⟩,⟨λi e j k f hj L kj C r=>absurd r (n _ _ _),λi e a k f E L F C g o=>absurd g (n _ _ _),λa k b m E r F kb C g o h3=>absurd g (n _ _ _)⟩,λa k E F r=>absurd r (n _ _ _)⟩
 .rw[u i f];have G:=LZ hs f.1 f.2;have pv:(0<=(AK W H i).x/\(AK W H i).x<W)/\(0<=(AK W H i).y/\(AK W H i).y<H):=⟨G.1,G.2.1⟩
  omega
 .obtain⟨i,_,rfl⟩:=mm s hs';simp
 .have:=one c;match hl:AP (DT W H) c with
  | []=>exact Nt
  | [x]=>simp
  |x::y::l=>rw[hl]at this;simp at this
 .constructor
  .intro q;rcases Qp (DT W H) c with⟨s,g,rfl⟩|h
   .rw[PU w g]at q;obtain⟨i,f,rfl⟩:=mm s g;simp only[Kb]at q;subst q;have I:AW ⟨W,H,[]⟩ (i:Int):=⟨Dz,by show (i:Int)<4*W*H;omega⟩
    exact⟨I,u _ I⟩
   .rw[h]at q;simp at q
  .rintro⟨g,o⟩;rw[u v g]at o;have ji:0<=v/\v<4*W*H:=g;have M:(⟨AK W H v,[v]⟩:Stk)∈DT W H:=by
    unfold DT;refine Jx.2 ⟨v.toNat,Kk.2 Dz,?_⟩;rw[show ((v.toNat:Nat):Int)=v from Dz]
   have:=PU w M;rw[<-o];rw[this];simp
def JP(y x:Int×Int):Bool:=decide (y.1<x.1)||(decide (y.1=x.1)&&decide (y.2<x.2))
def KY(x:Int×Int):List (Int×Int)->List (Int×Int)
 | []=>[x]
 |y::r=>if JP y x=true then y::KY x r else if y=x then y::r else x::y::r
def LF(q:Pas):Int×Int:=(q.K,q.C)
def FB(ps:List Pas):List (Int×Int):=ps.foldl (λl q=>KY (LF q) l) []
theorem b3i{y x:Int×Int}:JP y x=true↔y.1<x.1\/y.1=x.1/\y.2<x.2:=by unfold JP;rw[Kp,Ke,Ju,Ju,Ju]
theorem d1t{x y z:Int×Int}(h1:JP x y=true)(h2:JP y z=true):JP x z=true:=by rw[b3i]at*;omega
theorem f4p{x y:Int×Int}(h1:¬JP y x=true)(a:y≠x):JP x y=true:=by rw[b3i]at*;have:¬(y.1=x.1/\y.2=x.2):=λh=>a (Prod.ext h.1 h.2);omega
theorem d09{x:Int×Int}:∀(l:List (Int×Int)) (k:Nat),k<=l.length->(∀j,j<k->JP (l.getD j BX.d) x=true)->(k<l.length->¬JP (l.getD k BX.d) x=true)->
 KY x l=if k<l.length/\l.getD k BX.d=x then l else l.take k++([x]++l.drop k)
 | [],k,h,_,_=>by obtain rfl:k=0:=E6;rfl
 |y::l,0,_,_,h=>by
  have a:¬JP y x=true:=h E2;rw[KY,Jj a];show (if y=x then y::l else x::y::l)=if 0<(y::l).length/\y=x then y::l else []++([x]++y::l);by_cases e:y=x
  .rw[Ji e,Ji ⟨E2,e⟩]
  .rw[Jj e,Jj (λq=>e q.2)];rfl
 |y::l,k+1,h,b,c=>by
  have a:JP y x=true:=b 0 Dz;have f:=@d09 x l k E6 (λj q=>b (j+1) Dz) (λq=>c (by simpa using q));rw[KY,Ji a,f];show (y::if k<l.length/\l.getD k BX.d=x then l else l.take k++([x]++l.drop k))=if k+1<(y::l).length/\l.getD k BX.d=x then y::l else y::l.take k++([x]++l.drop k);by_cases e:k<l.length/\l.getD k BX.d=x
  .rw[Ji e,Ji ⟨by simpa using e.1,e.2⟩]
  .rw[Jj e,Jj (λq=>e ⟨by simpa using q.1,q.2⟩)];rfl
theorem b62{x y:Int×Int}:∀(l:List (Int×Int)),y∈KY x l↔y∈l\/y=x
 | []=>by simp[KY]
 |z::l=>by
  rw[KY];split
  .rw[Jv,b62 l,Jv,or_assoc]
  .split
   .rename_i h;subst h;simp only[Jv];constructor
    .exact λh=>.inl h
    .rintro(h|h)
     .exact h
     .exact .inl h
   .simp only[Jv];constructor
    .rintro(h|h)
     .exact .inr h
     .exact .inl h
    .rintro(h|h)
     .exact .inr h
     .exact .inl h
theorem c4i{x:Int×Int}:∀(l:List (Int×Int)),(KY x l).length<=l.length+1
 | []=>by simp[KY]
 |z::l=>by
  have:=@c4i x l;rw[KY];split
  .exact Ck
  .split<;>simp
theorem c3a{x:Int×Int}:∀(l:List (Int×Int)),l.Pairwise (λa b=>JP a b=true)->(KY x l).Pairwise λa b=>JP a b=true
 | [],_=>by simp[KY]
 |z::l,h=>by
  rw[Ku]at h;rw[KY];split
  .rename_i d;rw[Ku];refine⟨λa c=> ?_,c3a l h.2⟩;rcases(b62 l).1 c with c|rfl
   .exact h.1 a c
   .exact d
  .rename_i d;split
   .rw[Ku];exact h
   .rename_i e;have hx:=f4p d e;rw[Ku,Ku];refine⟨λa c=> ?_,h⟩;rcases Jv.1 c with rfl|c
    .exact hx
    .exact d1t hx (h.1 a c)
theorem f3j{ps:List Pas}{i:Nat}{d:Pas}(h:i<ps.length):FB (ps.take (i+1))=KY (LF (ps.getD i d)) (FB (ps.take i)):=by unfold FB;rw[Lz,Jh h,List.foldl_append,Jg,Jh h];rfl
theorem d63(ps:List Pas):∀(l:List (Int×Int)),l.Pairwise (λa b=>JP a b=true)->(ps.foldl (λl q=>KY (LF q) l) l).Pairwise (λa b=>JP a b=true)/\(∀y,y∈ps.foldl (λl q=>KY (LF q) l) l↔y∈l\/∃q∈ps,LF q=y)/\(ps.foldl (λl q=>KY (LF q) l) l).length<=l.length+ps.length:=by
 induction ps with
 |nil=>intro l h;exact⟨h,λy=>E2,E2⟩
 |cons q ps c=>
  intro l h;obtain⟨d,e,h3⟩:=c (KY (LF q) l) (c3a l h);refine⟨d,λy=> ?_,?_⟩
  .rw[Mk,e,b62];simp only[Jv,exists_eq_or_imp];rw[or_assoc];constructor
   .rintro(h|h|h)
    .exact .inl h
    .exact .inr (.inl h.symm)
    .exact .inr (.inr h)
   .rintro(h|h|h)
    .exact .inl h
    .exact .inr (.inl h.symm)
    .exact .inr (.inr h)
  .have:=@c4i (LF q) l;rw[Mk,Kz];omega
theorem g1f(ps:List Pas):(FB ps).Pairwise λa b=>JP a b=true:=(d63 ps [] .nil).1
theorem c51{ps:List Pas}{y:Int×Int}:y∈FB ps↔∃q∈ps,LF q=y:=by have:=(d63 ps [] .nil).2.1 y;simp only[List.not_mem_nil,false_or]at this;exact this
theorem g3i(ps:List Pas):(FB ps).length<=ps.length:=by have:=(d63 ps [] .nil).2.2;simp only[N7,L9]at this;exact this
theorem f5h{p:Pt}{P:Int->Mv}{y:Int×Int}(g:BN p=0)(G:PlcG p P):y∈FB (HV p P (3*AF p.W p.H))↔Qu p P y.1 y.2:=by
 have hs:=(FN g).1;rw[c51];constructor
 .rintro⟨q,j,rfl⟩;obtain⟨a,e,c,d,h,rfl⟩:=(TX g G).1 j;exact⟨a,e,c,d,rfl⟩
 .rintro⟨a,e,c,d,h⟩;have f:∀b,DI p b e->AZ p b e=0->b<BF p b e->JV p P y.1 y.2 b e->∃q∈HV p P (3*AF p.W p.H),LF q=y:=λb k l m n=>by
   refine⟨_,(TX g G).2 ⟨b,e,k,l,m,rfl⟩,?_⟩;have i:HC (DN (AU p P b)) (DN (CN p P b e))=(y.1,y.2):=n;unfold LF;simp only;rw[i]
  by_cases o:a<BF p a e
  .exact f a c d o h
  .obtain⟨r,s⟩:=Rs hs c;have nq:BF p a e≠a:=λq=>by
    have:=(LD hs c.1 c.2.1 c.2.2).2.1;have t:AE p.W p.H a e=a:=q;rw[t]at this;exact c35 (ON hs c.1) c.2.1 this.symm
   exact f _ r (by rw[Ry hs g c];exact d) (by rw[s];omega) ((d6f hs G c d).2 h)
section
variable{L:List Stk}{K C sd:Int}{i:Nat}
theorem f91(h:i<L.length)(hs:CR K C (L.getD i AA.d).c≠sd):Dl K C sd (L.take (i+1))=Dl K C sd (L.take i)++[L.getD i AA.d]/\CY K C sd (L.take (i+1))=CY K C sd (L.take i):=by rw[GF (d:=AA.d) h];unfold Dl CY;rw[Nj,Nj];generalize L.getD i AA.d=x at*;simp[hs]
theorem g2m(h:i<L.length)(hs:CR K C (L.getD i AA.d).c=sd):Dl K C sd (L.take (i+1))=Dl K C sd (L.take i)/\CY K C sd (L.take (i+1))=CY K C sd (L.take i)++[⟨BR (BJ K C) (L.getD i AA.d).c,(L.getD i AA.d).l.reverse⟩]:=by rw[GF (d:=AA.d) h];unfold Dl CY;rw[Nj,Nj];generalize L.getD i AA.d=x at*;simp[hs]
theorem f1z:(Dl K C sd (L.take i)).length<=L.length:=by unfold Dl;refine Lr (N3 _ _) ?_;rw[Mr];omega
theorem f1c:(CY K C sd (L.take i)).length<=L.length:=by unfold CY;rw[Kh];refine Lr (N3 _ _) ?_;rw[Mr];omega
def KN(K C sd:Int)(L:List Stk):Bool:=L.any λs=>decide (CR K C s.c=sd)&&s.l.contains 0
def YP(z:Bool)(r m:Mv):Mv:=⟨if z=true then(DW r m).t else r.t,if z=true then(DW r m).x else r.x,if z=true then(DW r m).y else r.y⟩
theorem rt_eq(z:Bool)(r m:Mv):YP z r m=if z=true then DW r m else r:=by cases z<;>rfl
theorem z_stay(h:i<L.length)(hs:CR K C (L.getD i AA.d).c≠sd):KN K C sd (L.take (i+1))=KN K C sd (L.take i):=by rw[GF (d:=AA.d) h];unfold KN;rw[O2];generalize L.getD i AA.d=x at*;simp[hs]
theorem z_away(h:i<L.length)(hs:CR K C (L.getD i AA.d).c=sd):KN K C sd (L.take (i+1))=(KN K C sd (L.take i)||((L.getD i AA.d).l.reverse.take (L.getD i AA.d).l.length).contains 0):=by rw[GF (d:=AA.d) h];unfold KN;rw[O2];generalize L.getD i AA.d=x at*;have e:x.l.reverse.take x.l.length=x.l.reverse:=Lq E2;rw[e];simp[hs]
theorem f9y{l:List Int}{j:Nat}(h:j<l.length):l.reverse.getD j 0=l.getD (l.length-1-j) 0:=by rw[Jg,Jg,List.getElem?_reverse h]
theorem f3a{l:List Int}{j:Nat}(h:j<l.length):(l.take (j+1)).contains 0=((l.take j).contains 0||decide (l.getD j 0=0)):=by rw[GF (d:=0) h,List.contains_append];congr 1;rw[List.contains_cons,List.contains_nil,N1];rw[Lw,Mc,Ju];exact eq_comm
end
theorem d1p(_:Bool)(S:List Stk)(x:Stk):(∃k,k<S.length/\(∀j,j<k->(S.getD j AA.d).c≠x.c)/\(S.getD k AA.d).c=x.c)\/∀j,j<S.length->(S.getD j AA.d).c≠x.c:=by
 induction S with
 |nil=>exact .inr λj hj=>absurd hj (K5 _)
 |cons s S a=>
  by_cases h:s.c=x.c
  .exact .inl ⟨0,E2,λj hj=>absurd hj (K5 _),h⟩
  .rcases a with⟨k,h1,b,e⟩|h1
   .refine .inl ⟨k+1,Fn,λj hj=> ?_,e⟩;cases j with
    |zero=>exact h
    |succ j=>exact b j Dz
   .refine .inr λj hj=> ?_;cases j with
    |zero=>exact h
    |succ j=>exact h1 j Er
theorem b5a{over:Bool}{S A:List Stk}{i:Nat}(h:i<A.length):AX over S (A.take (i+1))=FA over (AX over S (A.take i)) (A.getD i AA.d):=by unfold AX;rw[GF (d:=AA.d) h,List.foldl_append];rfl
theorem c4m{over:Bool}{x:Stk}:∀(S:List Stk) (j:Nat),j<S.length->((FA over S x).getD j AA.d).c=(S.getD j AA.d).c/\((S.getD j AA.d).c≠x.c->(FA over S x).getD j AA.d=S.getD j AA.d)
 | [],j,h=>Ec
 |s::S,j,h=>by
  rw[FA];split
  .rename_i e;cases j with
   |zero=>exact⟨rfl,λq=>absurd e q⟩
   |succ j=>exact⟨rfl,λ_=>rfl⟩
  .cases j with
   |zero=>exact⟨rfl,λ_=>rfl⟩
   |succ j=>exact c4m S j E6
theorem b59{over:Bool}{x:Stk}:∀(S:List Stk),S.length<=(FA over S x).length/\(FA over S x).length<=S.length+1
 | []=>by simp[FA]
 |s::S=>by
  have:=@b59 over x S;rw[FA];split
  .simp
  .exact Ck
theorem WH{over:Bool}:∀(A S:List Stk),S.length<=(AX over S A).length/\(AX over S A).length<=S.length+A.length
 | [],S=>by show S.length<=S.length/\S.length<=S.length+0;omega
 |x::A,S=>by have h1:=@WH over A (FA over S x);have h2:=@b59 over x S;have e:AX over S (x::A)=AX over (FA over S x) A:=rfl;rw[e,Kz];omega
theorem YW{over:Bool}:∀(A S:List Stk) (j:Nat),j<S.length->((AX over S A).getD j AA.d).c=(S.getD j AA.d).c/\((S.getD j AA.d).c∉A.map (·.c)->(AX over S A).getD j AA.d=S.getD j AA.d)
 | [],S,j,h=>⟨rfl,λ_=>rfl⟩
 |x::A,S,j,h=>by have e:AX over S (x::A)=AX over (FA over S x) A:=rfl;have h1:=(@b59 over x S).1;obtain⟨g1,a⟩:=@c4m over x S j h;obtain⟨f1,f2⟩:=@YW over A (FA over S x) j Dz;rw[e];refine⟨f1.trans g1,λq=> ?_⟩;rw[L4,Jv,not_or]at q;rw[f2 (by rw[g1];exact q.2),a q.1]
theorem c8t{over:Bool}:∀(A S:List Stk) (j:Nat),S.length<=j->j<(AX over S A).length->((AX over S A).getD j AA.d).c∈A.map (·.c)
 | [],S,j,g,a=>by have e:AX over S []=S:=rfl;rw[e]at a;omega
 |x::A,S,j,g,a=>by
  have e:AX over S (x::A)=AX over (FA over S x) A:=rfl;rw[e]at a⊢;by_cases f:j<(FA over S x).length
  .have hl:=(@b59 over x S).2;have b:j=S.length:=Dz;subst b;rw[(@YW over A (FA over S x) S.length f).1];rcases d1p over S x with⟨k,k1,k2,k3⟩|i
   .rw[b4p S k k1 k2 k3,Li]at f;omega
   .rw[b18 S i];simp[]
  .exact Kd _ (c8t A _ j Dz a)
theorem d54:∀(n:Nat) (l:List Int),l.Nodup->(∀x∈l,0<=x/\x<(n:Int))->l.length<=n
 |0,l,_,h=>by
  cases l with
  |nil=>simp
  |cons x l=>have:=h x E2;omega
 |n+1,l,a,h=>by
  have b:=d54 n (l.erase (n:Int)) (a.sublist List.erase_sublist) (λx hx=>by
   have h1:=h x (List.mem_of_mem_erase hx);have h2:x≠(n:Int):=λe=>by subst e;exact a.not_mem_erase hx
   omega)
  rw[List.length_erase]at b;split at b<;>omega
namespace StG
variable{p:Pt}{r:Mv}{L:List Stk}{P:Int->Mv}{B:Int}
theorem flat_len(X:StG p r L P B):(BD L).length<=AF p.W p.H:=by have hN:=CG X.hs;refine d54 _ _ X.flat_nd λx hx=> ?_;have h:=(X.flat_mem x).1 hx;unfold AW at h;omega
theorem lay_len(X:StG p r L P B){s:Stk}(hs:s∈L):s.l.length<=AF p.W p.H:=by have hN:=CG X.hs;have a:=X.S.nd s.c;rw[X.at_ hs]at a;refine d54 _ _ a λx hx=> ?_;have h:=(X.inSt hs hx).1;unfold AW at h;omega
theorem len(X:StG p r L P B):L.length<=AF p.W p.H:=by
 refine Nat.le_trans ?_ X.flat_len;have:∀M:List Stk,(∀s∈M,s.l≠[])->M.length<=(BD M).length:=by
  intro M;induction M with
  |nil=>intro _;simp
  |cons s M a=>
   intro h;have h1:=a λt b=>h t (List.mem_cons_of_mem _ b);have h2:0<s.l.length:=List.length_pos_iff.2 (h s (by simp));have e:BD (s::M)=s.l++BD M:=rfl;rw[e,List.length_append,List.length_cons];omega
 exact this L X.ne
theorem stIn(X:StG p r L P B):DV L:=by
 have hN:=CG X.hs;have hw:=JU X.hs;have h1:=X.len;have h2:=X.flat_len;refine⟨⟨by omega,λs hs=> ?_⟩,λs hs=> ?_,by omega⟩
 .have:=X.lay_len hs;omega
 .have:=X.cQ hs;unfold DF at this;exact⟨this.1,by show s.c.q<=255;omega⟩
theorem cg(X:StG p r L P B){Q:Int->Mv}(h:∀i,AW p i->Q i=P i):StG p r L Q B:=by
 have hs:=X.hs;have hN:=CG hs;refine⟨X.hp,⟨λi a=>by rw[h i a];exact X.G.ok i a,λi e a f g=> ?_⟩,?_,λi a=>by rw[VN h a];exact X.bd i a,X.lt,X.ne,⟨X.S.nd,λc v=> ?_⟩,nc_cg h X.N,kd_cg hs h X.D⟩
 .rw[h i a,h _ (LD hs a f g).1];exact X.G.cr i e a f g
 .rw[h 0 ⟨Int.le_refl _,by omega⟩];exact X.r0
 .rw[X.S.mem c v];constructor
  .rintro⟨b,d⟩;exact⟨b,by rw[VN h b];exact d⟩
  .rintro⟨b,d⟩;exact⟨b,by rw[<-VN h b];exact d⟩
theorem pl(X:StG p r L P B)(a:B<=4000):StG p r L (AL p r) B:=X.cg λi b=>(X.places a).2 i b
theorem mono{a:Int}(X:StG p r L P B)(hB:B<=a):StG p r L P a:=
 ⟨X.hp,X.G,X.r0,λi b=>by have:=X.bd i b;omega,X.lt,X.ne,X.S,X.N,X.D⟩
end StG
abbrev JQ:=Pt×Mv×List Stk
def NA(s:JQ):List (Int×Int):=FB (HV s.1 (AL s.1 s.2.1) (3*AF s.1.W s.1.H))
def Xs(s:JQ)(K C sd:Int)(over:Bool):JQ:=(GL s.1 (AL s.1 s.2.1) K C over,FP s.1 (AL s.1 s.2.1) K C sd 0,KD over K C sd s.2.2)
def foLn(s:JQ)(a:Int):Int×Int:=(NA s).getD (a%((NA s).length:Int)).toNat BX.d
def NZ(s:JQ)(f:Int×Int×Int):JQ:=if NA s=[]then s else Xs s (foLn s f.1).1 (foLn s f.1).2 (f.2.1%2) (decide (f.2.2%2=1))
def sxSt(w h:Int):JQ:=(⟨1+w%4,1+h%4,[]⟩,CX,DT (1+w%4) (1+h%4))
def Pn(w h:Int)(l:List (Int×Int×Int)):JQ:=(l.take 5).foldl NZ (sxSt w h)
def Qc:Nat->Int
 |0=>3
 |i+1=>3*Qc i+2
theorem d0x{i:Nat}(h:i<=5):3<=Qc i/\Qc i<=971:=by
 match i,h with
 |0,_=>decide
 |1,_=>decide
 |2,_=>decide
 |3,_=>decide
 |4,_=>decide
 |5,_=>decide
structure SOK (s:JQ) (i:Nat):Prop where
 g:StG s.1 s.2.1 s.2.2 (AL s.1 s.2.1) (Qc i)
 small:s.1.W<=4/\s.1.H<=4
 few:s.1.l.length<=192*i
 u8:∀c∈s.1.l,AD .u8 c.e
theorem SOK.prOK{s:JQ}{i:Nat}(X:SOK s i)(hi:i<=5):prOK s.1 s.2.1:=by have hN:=CG X.g.hs;have a:=(X.g.G.ok 0 ⟨Int.le_refl _,by omega⟩).1;rw[X.g.r0]at a;have:=X.few;unfold GE at a;exact⟨⟨by omega,X.u8⟩,by omega,by omega⟩
theorem SOK.n{s:JQ}{i:Nat}(X:SOK s i):AF s.1.W s.1.H<=64:=by have a:=CG X.g.hs;have hw:=JU X.g.hs;obtain⟨b,c⟩:=X.small;have:s.1.W*s.1.H<=4*4:=Int.mul_le_mul b c (by omega) (by omega);rw[Int.mul_assoc]at a;omega
theorem SOK.chk{s:JQ}{i:Nat}(X:SOK s i)(hi:i<=5):CL s.1 s.2.1 s.2.2=0:=X.g.valid (by have:=d0x hi;omega)
theorem SOK.mono{s:JQ}{i j:Nat}(X:SOK s i)(h:i<=j)(a:j<=5):SOK s j:=by
 refine⟨X.g.mono ?_,X.small,by have:=X.few;omega,X.u8⟩;have:∀j,i<=j->j<=5->Qc i<=Qc j:=by
  intro j;induction j with
  |zero=>intro h _;have:i=0:=by omega
         subst this;exact Int.le_refl _
  |succ j b=>
   intro h1 h2;by_cases e:i=j+1
   .subst e;exact Int.le_refl _
   .have h3:=b (by omega) (by omega);have h4:=d0x (i:=j) (by omega);show Qc i<=3*Qc j+2;omega
 exact this j h a
theorem c8s(l:List Cr):(OV l).length=l.length:=(b78 l).length_eq
theorem SOK.fold{s:JQ}{i:Nat}(X:SOK s i)(hi:i+1<=5){K C sd:Int}(b:Qu s.1 (AL s.1 s.2.1) K C)(a:sd=0\/sd=1)(over:Bool):SOK (Xs s K C sd over) (i+1):=by
 obtain⟨hK,Y⟩:=X.g.fold X.u8 b a over;have hB:=d0x (i:=i+1) hi;have c:StG (Xs s K C sd over).1 (Xs s K C sd over).2.1 (Xs s K C sd over).2.2 (FP s.1 (AL s.1 s.2.1) K C sd) (Qc (i+1)):=Y;refine⟨c.pl (by omega),X.small,?_,?_⟩
 .show (OV (s.1.l++LX s.1 (AL s.1 s.2.1) K C over)).length<=_;rw[c8s,List.length_append];have h1:=X.few;have h2:=X.n;have h3:(LX s.1 (AL s.1 s.2.1) K C over).length<=3*AF s.1.W s.1.H:=by
   unfold LX;rw[List.length_map];refine Nat.le_trans (List.length_filter_le _ _) ?_;unfold HV;refine Nat.le_trans (List.length_filterMap_le _ _) ?_;simp
  omega
 .exact(d9y (K:=K) (C:=C) (over:=over) X.g.hp X.u8 X.g.G).2
theorem ci_bd{c:Cl}{e B:Int}(a:DF c)(b:0<=e/\e<3)(d:(-B<=c.x/\c.x<=B)/\ -B<=c.y/\c.y<=B): -(2*B+1)<=DK c.x c.y c.q e/\DK c.x c.y c.q e<=2*B+1:=by obtain⟨X,Y,Q⟩:=c;rcases ET a with h|h|h|h<;>rcases HI b with rfl|rfl|rfl<;>(simp only at h d;subst h;simp[DK,Il,KS,tb];omega)
theorem on_bd{p:Pt}{r:Mv}{L:List Stk}{P:Int->Mv}{B K C:Int}(X:StG p r L P B)(f:Qu p P K C):(1<=K/\K<=4)/\ -(2*B+1)<=C/\C<=2*B+1:=by have hs:=X.hs;obtain⟨a,e,b,ka,g⟩:=f;have c:=NG hs X.G b.1;have d:=Sd (t:=(P a).t) b.2.1;obtain⟨h,i⟩:=(c3e hs X.G b.1 b.2.1).1 g;rw[<-h,<-i];exact⟨ci_K c d,ci_bd c d (X.bd a b.1)⟩
theorem d5r{s:JQ}{i:Nat}(X:SOK s i){y:Int×Int}:y∈NA s↔Qu s.1 (AL s.1 s.2.1) y.1 y.2:=f5h X.g.hp X.g.G
theorem d3r{s:JQ}{a:Int}(h:NA s≠[]):foLn s a∈NA s:=by have hl:0<(NA s).length:=List.length_pos_iff.2 h;refine DP ?_;have h1:=Int.emod_nonneg a (b:=((NA s).length:Int)) (by omega);have h2:=Int.emod_lt_of_pos a (b:=((NA s).length:Int)) (by omega);omega
theorem md2(a:Int):a%2=0\/a%2=1:=by omega
theorem SOK.next{s:JQ}{i:Nat}(X:SOK s i)(hi:i+1<=5)(f:Int×Int×Int):SOK (NZ s f) (i+1):=by
 unfold NZ;split
 .exact X.mono (by omega) hi
 .rename_i h;exact X.fold hi ((d5r X).1 (d3r h)) (md2 _) _
theorem sx_ok(w h:Int):SOK (sxSt w h) 0:=by
 have a1:=Int.emod_nonneg w (b:=4) (by omega);have a2:=Int.emod_lt_of_pos w (b:=4) (by omega);have b1:=Int.emod_nonneg h (b:=4) (by omega);have b2:=Int.emod_lt_of_pos h (b:=4) (by omega);have hs:AV (1+w%4) (1+h%4)=0:=by
  have a:w%4=0\/w%4=1\/w%4=2\/w%4=3:=by omega
  have d:h%4=0\/h%4=1\/h%4=2\/h%4=3:=by omega
  rcases a with e|e|e|e<;>rcases d with g|g|g|g<;>rw[e,g]<;>decide
 have G:=d4g (B:=3) hs (by omega);exact⟨G.pl (by omega),by show 1+w%4<=4/\1+h%4<=4;omega,by show 0<=_;omega,λc f=>by cases f⟩
theorem so_ok:∀(l:List (Int×Int×Int)) (s:JQ) (i:Nat),SOK s i->i+l.length<=5->SOK (l.foldl NZ s) (i+l.length)
 | [],s,i,h,_=>h
 |f::l,s,i,h,a=>by rw[List.length_cons]at a⊢;have:=so_ok l (NZ s f) (i+1) (h.next (by omega) f) (by omega);rw[show i+(l.length+1)=i+1+l.length by omega];exact this
theorem f5z(w h:Int)(l:List (Int×Int×Int)):SOK (Pn w h l) 5:=by
 have hl:(l.take 5).length<=5:=by rw[List.length_take];omega
 have:=so_ok (l.take 5) (sxSt w h) 0 (sx_ok w h) (by omega);exact this.mono (by omega) (by omega)
theorem d9u:∀(l:List (Int×Int×Int)) (s:JQ),NA s=[]->l.foldl NZ s=s
 | [],_,_=>rfl
 |f::l,s,h=>by
  have e:NZ s f=s:=by unfold NZ;rw[if_pos h]
  rw[List.foldl_cons,e];exact d9u l s h
theorem c73{p:Pt}{r:Mv}{L:List Stk}(h:CL p r L=0):CH p r=0:=(VG (WS h)).1
theorem f17{p:Pt}{x y:Int}{L:List Stk}:¬CL p ⟨8,x,y⟩ L=0:=λh=>by have:=(Sv (Og (c73 h)).2.1).1;simp at this
theorem f02{W:Int}{l:List Cr}{r:Mv}{L:List Stk}:¬CL ⟨W,0,l⟩ r L=0:=λh=>by have:=JU (FN (Og (c73 h)).1).1;simp only at this;omega
theorem f23(A B:List Stk):BD (A++B)=BD A++BD B:=by unfold BD;rw[List.flatMap_append]
theorem StG.pos{p:Pt}{r:Mv}{L:List Stk}{P:Int->Mv}{B:Int}(X:StG p r L P B):0<L.length:=by
 have hN:=CG X.hs;have h:=(X.flat_mem 0).2 ⟨Ms _,Dz⟩;cases L with
 |nil=>simp[BD]at h
 |cons s L=>simp
theorem g18{p:Pt}{r:Mv}{L:List Stk}{P:Int->Mv}{B:Int}(X:StG p r L P B):¬CL p r (L.take (L.length-1))=0:=λh=>by
 have hN:=CG X.hs;have hp:=X.pos;have a:=(X.G.ok 0 ⟨Ms _,Dz⟩).1;rw[X.r0]at a;unfold GE at a;have S:=Xa (WS h) a.1 (λs hs=>X.stIn.2.1 s (M4 hs));have b:L.length-1<L.length:=Dz;have e:=GF (d:=AA.d) b;rw[show L.length-1+1=L.length from Dz,Kw]at e;have g:L.getD (L.length-1) AA.d∈L:=DP b;obtain⟨v,i,c,_⟩:=X.one g;unfold AW at c;have j:=S.all v c.1 Dz;have f:=X.flat_nd;rw[e,f23]at f;have:=(Mz.1 f).2.2 v j v (by show v∈BD [L.getD (L.length-1) AA.d];unfold BD;simpa using i)
 exact this rfl
theorem f8r{k C s:Int}{o:Bool}{p:Pt}{r:Mv}{L:List Stk}(h:¬CL p r L=0):CQ k C s o p r L=CL p r L:=by unfold CQ;rw[Ji h]
theorem d77{α:Type}{e:Int}{l:List α}(h:¬e=0):(zL e l).length=0:=by simp[zL,h]
theorem TS{own:List Blk}{k x i y T sz n:Nat}{f:Nat->List SV}{m:Option Nat}(h:own[k]?=some (.row T sz n f m))(hi:i<n):XR own (.oel k x i y):=by unfold XR;simp only[h];exact hi
def f3p:AH
 | [.agg [.int .u8 K,.int .i64 C],.agg [.int .i64 X,.int .i64 Y,.int .u8 Q]]=>some ((0<=K/\K<=4)/\(-60001<=C/\C<=60001)/\(-30000<=X/\X<=30000)/\(-30000<=Y/\Y<=30000)/\0<=Q/\Q<=3,.int .u8 (if UH K C X Y Q<6*C then 0 else 1))
 |_=>none
def FSi28:Fam:=⟨Int×Int×Int×Int×Int,λ(K,C,X,Y,Q)=>[.agg [.int .u8 K,.int .i64 C],.agg [.int .i64 X,.int .i64 Y,.int .u8 Q]],λ(K,C,X,Y,Q)=>(0<=K/\K<=4)/\(-60001<=C/\C<=60001)/\(-30000<=X/\X<=30000)/\(-30000<=Y/\Y<=30000)/\0<=Q/\Q<=3,λ(K,C,X,Y,Q)=>.int .u8 (if UH K C X Y Q<6*C then 0 else 1)⟩
theorem pSi28:PS 48 f3p:=by
 refine con [(101,d86)] (by simpa using pIn25) FSi28 (λ_ _=>none) f3p ?_ ?_ Tryz.func48 E1 E1 E1 ?_
 .intro args pre s h a;unfold f3p at h;split at h
  .rename_i K C X Y Q;cases h;exact⟨(K,C,X,Y,Q),by simp[FSi28,BK,SV.le2,SV.le1,BH,SV.le0],a,rfl⟩
  .cases h
 .exact Bz
 .rintro⟨K,C,X,Y,Q⟩ a;replace a:(0<=K/\K<=4)/\(-60001<=C/\C<=60001)/\(-30000<=X/\X<=30000)/\(-30000<=Y/\Y<=30000)/\0<=Q/\Q<=3:=a;have i1:=@in_le X Q Dz;have i2:=@f84 Y Q Dz;have b:K=0\/K=1\/K=2\/K=3\/K=4:=Dz;rcases b with rfl|rfl|rfl|rfl|rfl;all_goals refine X0a _ ?_;(repeat' first|constructor|intro h)<;>refine Lm ?_
  all_goals(try(with_reducible show XR _ _
                exact TS rfl E4))
  all_goals(try(with_reducible show AD _ _
                simp only[AD];omega))
  all_goals(try(with_reducible show _=ite _ _ _
                simp only[Iz]at h;first|exact(Ji h).symm|exact(Jj h).symm))
  all_goals(first|exact⟨E4,E4⟩|exact⟨⟨Dz,Dz⟩,⟨Dz,Dz⟩,Dz,Dz⟩)
def IEd28:Int×Int×Int×Int->Nat->Option Inv
 |(W,H,a,b),2=>some {β:=Nat,ok:=λk=>1<=k/\k<=3/\∀j:Nat,1<=j->j<k->BP W H a j≠b,st:=λk=>⟨[⟨7,none,.int .i64 k⟩,⟨6,none,.int .u8 0⟩,⟨3,none,.own 0 0⟩,⟨2,none,.int .i64 b⟩,⟨1,none,.int .i64 a⟩],[.cells 31 [.int .i64 W,.int .i64 H]]⟩,μ:=λk=>3-k}
 |_,_=>none
def f4e:AH
 | [.agg [.int .i64 W,.int .i64 H],.int .i64 a,.int .i64 b]=>some (AV W H=0/\(0<=a/\a<4*W*H)/\0<=b/\b<4*W*H,.int .u8 (Va W H a b))
 |_=>none
def FEd28:Fam:=⟨Int×Int×Int×Int,λ(W,H,a,b)=>[.agg [.int .i64 W,.int .i64 H],.int .i64 a,.int .i64 b],λ(W,H,a,b)=>AV W H=0/\(0<=a/\a<4*W*H)/\0<=b/\b<4*W*H,λ(W,H,a,b)=>.int .u8 (Va W H a b)⟩
theorem pEd28:PS 53 f4e:=by
 refine con [(99,Us)] (by simpa using f33) FEd28 IEd28 f4e ?_ ?_ Tryz.func53 E1 E1 E1 ?_
 .intro args pre s h g;unfold f4e at h;split at h
  .rename_i W H a b;cases h;exact⟨(W,H,a,b),by simp[FEd28,BK,SV.le2,SV.le1,BH,SV.le0],g,rfl⟩
  .cases h
 .exact C1
 .rintro⟨W,H,a,b⟩ ⟨hs,⟨f,l⟩,m,je⟩;have n:a.tmod 4=a%4:=Kq f;have o:b.tmod 4=b%4:=Kq m;refine X0a _ ?_;(repeat' first|constructor|intro h)<;>refine Lm ?_
  refine⟨(1:Nat),⟨Jp _,by show 1<=3;omega,λj h1 r=>by have:j<1:=r;omega⟩,?_,?_⟩
  .exact X1e
  .intro k d;replace d:1<=k/\k<=3/\∀j:Nat,1<=j->j<k->BP W H a j≠b:=d;obtain⟨k1,k2,k3⟩:=d;refine X0a _ ?_;(repeat' first|constructor|intro h)<;>refine Lm ?_
   all_goals(try simp only[n,o,Iz,Is,J6]at*)
   all_goals(try first
    |exact⟨hs,f,l⟩
    |exact Ap
    |exact Aq)
   all_goals(try first
    |(have t:k=1\/k=2:=by omega
      have u:BP W H a 1=b\/BP W H a 2=b:=by
       rcases t with rfl|rfl
       .exact .inl E5
       .exact .inr E5
      unfold Va;rw[Ji u];first|(rw[Ji Dz];done)|(rw[Jj Dz];done))
    |(unfold Va
      rw[Jj];rintro(q|q)
      .exact k3 1 Dz Dz q
      .exact k3 2 Dz Dz q))
   all_goals
    refine⟨k+1,⟨by show 1<=k+1;omega,Eu,λj v w=> ?_⟩,Ev,?_⟩
    .by_cases e:j=k
     .subst e;assumption
     .exact k3 j v (by have:j<k+1:=w;omega)
    .exact X1g
def QZ:RT Int:=⟨1,λn=>[.int .u8 n],λl=>match l with
 | [.int _ a]=>a
 |_=>0,0,λ_=>rfl⟩
def YJ:AH
 | [x]=>(Pl x).map λq=>(q.1/\(∀c∈q.2.l,AD .u8 c.e)/\BN q.2=0,.sl 1 (JS q.2).length (QZ.row (JS q.2)) none)
 |_=>none
def FTab:Fam:=⟨Pt,λp=>[KC p],λp=>p.l.length<=100000/\(∀c∈p.l,AD .u8 c.e)/\BN p=0,λp=>.sl 1 (JS p).length (QZ.row (JS p)) none⟩
def d8r(p:Pt)(f:Nat->List SV)(a:List Blk):List Blk:=.cells 34 [.int .i64 p.W,.int .i64 p.H,.sl 3 p.l.length (Eo p.l) none]::.row 67 1 (3*AF p.W p.H) f none::a
abbrev CF(p:Pt)(i:Nat):Cr:=p.l.getD i d0
abbrev JD(p:Pt)(i:Nat):Int:=AE p.W p.H (CF p i).c (CF p i).e
def Sq(p:Pt)(i:Nat)(b:Bool)(j:Nat):List SV:=[.int .u8 (if b=true then LC p.W p.H (p.l.take (i+1)) j else LC p.W p.H (p.l.take i) j)]
def f24(p:Pt)(i:Nat)(b:Bool)(j:Nat):List SV:=[.int .u8 (if b=true then LC p.W p.H (p.l.take (i+1)) j else if j=(3*(CF p i).c+EG ((CF p i).c%4) (CF p i).e).toNat then(CF p i).k else LC p.W p.H (p.l.take i) j)]
theorem d3k{p:Pt}{i n:Nat}{b:Bool}{x:SV}:over (Sq p i b n) 0 [x]=[x]:=rfl
theorem d1c{p:Pt}{i n:Nat}{b:Bool}{x:SV}:over (f24 p i b n) 0 [x]=[x]:=rfl
theorem b4u(p:Pt):(JS p).length=3*AF p.W p.H:=by simp[JS]
theorem f9b{p:Pt}{j:Nat}(a:j<3*AF p.W p.H):Sq p p.l.length false j=QZ.row (JS p) j:=by unfold Sq RT.row JS;rw[Kw,Jg,K9,Ny a];rfl
def ITab(p:Pt):Nat->Option Inv
 |3=>some {β:=Nat,ok:=λi=>i<=p.l.length,st:=λi=>⟨[⟨4,none,.int .i64 i⟩,⟨3,none,.osl 1⟩,⟨1,none,.own 0 0⟩],d8r p (Sq p i false) []⟩,μ:=λi=>p.l.length-i,sub:=λi=>some fun
  |7=>some {β:=Nat,ok:=λk=>k<=3/\i<p.l.length,st:=λk=>⟨[⟨6,none,.int .i64 k⟩,⟨5,none,.own 2 0⟩,⟨4,none,.int .i64 i⟩,⟨3,none,.osl 1⟩,⟨1,none,.own 0 0⟩],d8r p (Sq p i (decide (EG ((CF p i).c%4) (CF p i).e<k))) [.cells 69 (Ys (CF p i))]⟩,μ:=λk=>3-k,sub:=λk=>some fun
   |13=>some {β:=Nat,ok:=λm=>m<=3/\i<p.l.length/\k=EG ((CF p i).c%4) (CF p i).e,st:=λm=>⟨[⟨8,none,.int .i64 m⟩,⟨7,none,.int .i64 (JD p i)⟩,⟨6,none,.int .i64 k⟩,⟨5,none,.own 2 0⟩,⟨4,none,.int .i64 i⟩,⟨3,none,.osl 1⟩,⟨1,none,.own 0 0⟩],d8r p (f24 p i (decide (EG (JD p i%4) (CF p i).e<m))) [.cells 69 (Ys (CF p i))]⟩,μ:=λm=>3-m}
   |_=>none}
  |_=>none}
 |_=>none
theorem pTab:PS 98 YJ:=by
 refine con [(99,Us),(148,f0z)] (by simpa using⟨f33,pEd25⟩) FTab ITab YJ ?_ ?_ Tryz.func98 E1 E1 E1 ?_
 .intro args pre s h hp;unfold YJ at h;split at h
  .simp only[It]at h;obtain⟨⟨a,p⟩,hx,rfl,rfl⟩:=h;exact D5
  .cases h
 .exact C0
 .intro(p:Pt) hp;replace hp:p.l.length<=100000/\(∀c∈p.l,AD .u8 c.e)/\BN p=0:=hp;obtain⟨bm,E,z⟩:=hp;have hs:=(FN z).1;have hw:=JU hs;have hN:=CG hs;have hWH:4*p.W*p.H=4*(p.W*p.H):=Md 4 p.W p.H;have hWH2:12*p.W*p.H=12*(p.W*p.H):=Md 12 p.W p.H;have A:(12*p.W*p.H).toNat=3*AF p.W p.H:=Dz;refine X0a _ ?_;(repeat' first|constructor|intro h)<;>refine Lm ?_
  all_goals(try simp only[A])
  all_goals(try first
   |exact Ap
   |exact Aq
   |exact Au)
  refine⟨(0:Nat),Jw _,?_,?_⟩
  .refine X0a _ ?_;(repeat' first|constructor|intro h)<;>refine Lm ?_
   all_goals first|exact A2|(intro j n;show _=[SV.int .u8 (LC p.W p.H [] j)];rw[tab_0];rfl)|skip
  .intro i F;replace F:i<=p.l.length:=F;have P:i<p.l.length->AW p (CF p i).c/\(0<=(CF p i).e/\(CF p i).e<3)/\AR p.W p.H (CF p i).c (CF p i).e=0/\EI p.W p.H (CF p i).c (CF p i).e=(CF p i).c:=λh=>d46 z E (DP h);refine X0a _ ?_;(repeat' first|constructor|intro h)<;>refine Lm ?_
   all_goals(try simp only[Ir]at*)
   all_goals(try first|exact Ap)
   .have f:i<p.l.length:=Dz;obtain⟨c1,g,v,c4⟩:=P f;have qt:=@RH ((CF p i).c%4) (CF p i).e;have hm3:=@RH (JD p i%4) (CF p i).e;obtain⟨⟨o,r⟩,_⟩:=GU hs c1.1 c1.2 g v;obtain⟨G,I⟩:=Rh hs c1.1 c1.2 g v;have m1':0<=JD p i:=o;have m2':JD p i<4*p.W*p.H:=r;have qx:=c1.2;have V1:=c1.1;have e3c:3*(CF p i).c+((EG ((CF p i).c%4) (CF p i).e:Nat):Int)<3*AF p.W p.H:=Dz;refine⟨(0:Nat),⟨by show (0:Nat)<=3;omega,f⟩,?_,?_⟩
    .refine X0a _ ?_;(repeat' first|constructor|intro h)<;>refine Lm ?_
     all_goals first|exact A2|(intro j n;show Sq p i false j=Sq p i (decide (_<0)) j;rw[K4 Dz])|skip
    .intro k J;replace J:k<=3/\i<p.l.length:=J;have K:k<3->(kE ((CF p i).c%4) k=(CF p i).e↔k=EG ((CF p i).c%4) (CF p i).e):=λh=>Xv PH g k h;refine X0a _ ?_;(repeat' first|constructor|intro h)<;>refine Lm ?_
     all_goals(try simp only[Ir,Is,J6]at*)
     all_goals(try first
      |omega
      |exact⟨hs,c1.1,c1.2⟩
      |(intro _;exact⟨hs,c1.1,c1.2⟩)
      |exact A6)
     ·-- not this edge
      have b9:k≠EG ((CF p i).c%4) (CF p i).e:=λe=>by
       have B:BP p.W p.H (CF p i).c k=JD p i:=by rw[e];exact d9b g v
       rcases h with h|h
       .rw[B]at h;omega
       .exact h ((K Dz).2 e)
      refine⟨k+1,⟨Eu,f⟩,Ev,?_⟩;have C:decide (EG ((CF p i).c%4) (CF p i).e<k)=decide (EG ((CF p i).c%4) (CF p i).e<k+1):=by rw[decide_eq_decide];omega
      rw[C];exact X1g
     .have t:k=EG ((CF p i).c%4) (CF p i).e:=(K Dz).1 h.2;have B:BP p.W p.H (CF p i).c k=JD p i:=by rw[t];exact d9b g v
      rw[B];refine⟨(0:Nat),⟨by show (0:Nat)<=3;omega,f,t⟩,?_,?_⟩
      .refine X0a _ ?_;(repeat' first|constructor|intro h)<;>refine Lm ?_
       all_goals first
        |exact A2
        |(intro j n
          rw[d3k,K4 (show¬EG ((CF p i).c%4) (CF p i).e<k from Dz),K4 (show¬EG (JD p i%4) (CF p i).e<0 from Dz)];unfold Sq f24;rw[<-t];by_cases e:j=(3*(CF p i).c+(k:Int)).toNat
          .rw[K3 e,Jj E4,Ji e];rfl
          .rw[K4 e,Jj E4,Jj E4,Jj e];rfl)
        |skip
      .intro m L;replace L:m<=3/\i<p.l.length/\k=EG ((CF p i).c%4) (CF p i).e:=L;have M:m<3->(BP p.W p.H (JD p i) m=(CF p i).c↔m=EG (JD p i%4) (CF p i).e):=λQ=>by
        rw[<-Xv PH g m Q];constructor
        .intro q;unfold BP at q;split at q
         .rename_i R;have N:=(GU hs o r NR R).2;have O:=(GU hs o r g G).2;rw[q]at N;rw[I,N]at O;exact b77 (LZ hs o r).2.2.1 NR g O
         .omega
        .intro q;unfold BP;rw[q,Ji G];exact I
       refine X0a _ ?_;(repeat' first|constructor|intro h)<;>refine Lm ?_
       all_goals(try simp only[Ir]at*)
       all_goals(try first
        |omega
        |exact⟨hs,o,r⟩
        |(intro _;exact⟨hs,o,r⟩)
        |exact A6)
       all_goals(try first
        |(show (3*JD p i+(m:Int)).toNat<3*AF p.W p.H;omega)
        |exact Aw)
       .have u:m=EG (JD p i%4) (CF p i).e:=(M Dz).1 h;refine⟨m+1,⟨by show m+1<=3;omega,f,t⟩,by show 3-(m+1)<3-m;omega,?_⟩;refine X0a _ ?_;(repeat' first|constructor|intro h)<;>refine Lm ?_
        all_goals first
         |exact An
         |skip
        intro j n;rw[d1c,K4 (show¬EG (JD p i%4) (CF p i).e<m from Dz),K3 (show EG (JD p i%4) (CF p i).e<m+1 from Dz)];unfold f24;simp only[L1,J5];rw[f12 z E f rfl rfl n,<-t,<-u];have S:∀x y:Int,(if j=(3*(p.l.getD i d0).c+(k:Int)).toNat\/j=(3*AE p.W p.H (p.l.getD i d0).c (p.l.getD i d0).e+(m:Int)).toNat then x else y)=if j=(3*JD p i+(m:Int)).toNat then x else if j=(3*(CF p i).c+(k:Int)).toNat then x else y:=λx y=>by
         by_cases d:j=(3*JD p i+(m:Int)).toNat
         .rw[Ji (.inr d),Ji d]
         .rw[Jj d];by_cases w:j=(3*(CF p i).c+(k:Int)).toNat
          .rw[Ji (.inl w),Ji w]
          .rw[Jj w,Jj (λq=>q.elim w d)]
        rw[S];by_cases d:j=(3*JD p i+(m:Int)).toNat
        .rw[K3 d,Ji d];rfl
        .rw[K4 d,Jj d];rfl
       .have u:m≠EG (JD p i%4) (CF p i).e:=λe=>h ((M Dz).2 e);refine⟨m+1,⟨by show m+1<=3;omega,f,t⟩,by show 3-(m+1)<3-m;omega,?_⟩;have C:decide (EG (JD p i%4) (CF p i).e<m)=decide (EG (JD p i%4) (CF p i).e<m+1):=by
         rw[decide_eq_decide];omega
        rw[C];exact X1g
       .have T:m=3:=Dz;refine⟨k+1,⟨Eu,f⟩,Ev,?_⟩;rw[K3 (show EG (JD p i%4) (CF p i).e<m from Dz),K3 (show EG ((CF p i).c%4) (CF p i).e<k+1 from Dz)];exact X1g
     .have T:k=3:=Dz;refine⟨i+1,Eg,by show p.l.length-(i+1)<p.l.length-i;omega,?_⟩;rw[K3 (show EG ((CF p i).c%4) (CF p i).e<k from Dz)];exact X1g
   all_goals
    have U:i=p.l.length:=Dz;subst U;first|(with_reducible exact(b4u p).symm)|(with_reducible exact λj n=>f9b n)|skip
def rPl25(p:Pt)(r:Mv):SV:=.tup [.sl 3 (Bl p r).length (AG.row (Bl p r)) none,.int .i64 1]
def d69:AH
 | [x,y]=>(Ri [x,y]).map λq=>(q.1/\CH q.2.1 q.2.2=0,rPl25 q.2.1 q.2.2)
 |_=>none
def FPl25:Fam:=⟨Pt×Mv,λ(p,r)=>[KC p,Pb r],λ(p,r)=>prOK p r/\CH p r=0,λ(p,r)=>rPl25 p r⟩
def GY(kn:List Bool)(j:Nat):Bool:=kn.getD j false
def Vf(p:Pt)(r:Mv)(kn:List Bool)(j:Nat):List SV:=AG.sv (if GY kn j=true then AL p r j else⟨0,0,0⟩)
def Yz(p:Pt)(kn:List Bool)(i:Int):Prop:=∀e:Int,0<=e/\e<3->GY kn i.toNat=true->AR p.W p.H i e=0->GY kn (AE p.W p.H i e).toNat=true
def clK(p:Pt)(kn:List Bool)(a:Int)(k:Nat):Prop:=∀m:Nat,m<k->GY kn a.toNat=true->AR p.W p.H a (kE (a%4) m)=0->GY kn (AE p.W p.H a (kE (a%4) m)).toNat=true
def g0n(p:Pt)(r:Mv)(kn:List Bool):List Blk:=[.cells 34 [.int .i64 p.W,.int .i64 p.H,.sl 3 p.l.length (Eo p.l) none],.cells 36 [.int .u8 r.t,.int .i64 r.x,.int .i64 r.y],.row 36 3 (AF p.W p.H) (Vf p r kn) none,.row 4 1 (AF p.W p.H) (λj=>[.bool (GY kn j)]) none]
def plSt(p:Pt)(a:List Entry)(more:Bool):List Entry:=a++[⟨10,none,.bool more⟩,⟨9,none,.sl 1 (JS p).length (QZ.row (JS p)) none⟩,⟨8,none,.osl 3⟩,⟨7,none,.osl 2⟩,⟨6,none,.int .i64 (4*p.W*p.H)⟩,⟨2,none,.own 0 0⟩]
def plOK(p:Pt)(kn:List Bool):Prop:=kn.length=AF p.W p.H/\GY kn 0=true
def IPl25:Pt×Mv->Nat->Option Inv
 |(p,r),9=>some {β:=List Bool×Bool,ok:=λ(b,more)=>plOK p b/\(more=false->∀i:Int,AW p i->Yz p b i),st:=λ(b,more)=>⟨plSt p [] more,g0n p r b⟩,μ:=λ(b,more)=>2*b.count false+(if more=true then 1 else 0),sub:=λ(c,_)=>some fun
  |12=>some {β:=Int×List Bool×Bool,ok:=λ(a,b,more)=>(0<=a/\a<=AF p.W p.H)/\plOK p b/\b.count false<=c.count false/\(more=true->b.count false<c.count false)/\(more=false->∀i:Int,0<=i->i<a->Yz p b i),st:=λ(a,b,more)=>⟨plSt p [⟨11,none,.int .i64 a⟩] more,g0n p r b⟩,μ:=λ(a,_)=>AF p.W p.H-a.toNat,sub:=λ(a,_)=>some fun
   |15=>some {β:=Nat×List Bool×Bool,ok:=λ(k,b,more)=>k<=3/\AW p a/\plOK p b/\b.count false<=c.count false/\(more=true->b.count false<c.count false)/\(more=false->(∀i:Int,0<=i->i<a->Yz p b i)/\clK p b a k),st:=λ(k,b,more)=>⟨plSt p [⟨12,none,.int .i64 k⟩,⟨11,none,.int .i64 a⟩] more,g0n p r b⟩,μ:=λ(k,_)=>3-k}
   |_=>none}
  |_=>none}
 |_,_=>none
section
variable{p:Pt}{r:Mv}
theorem f5q{kn:List Bool}{a:Int}{k:Nat}(h:clK p kn a k)(b:k=3\/GY kn a.toNat=false):Yz p kn a:=by
 intro e d c f;rcases b with rfl|b
 .have g:=@RH (a%4) e;have:=h (EG (a%4) e) g c;rw[Ue PH d]at this;exact this f
 .rw[b]at c;cases c
theorem cl_all{kn:List Bool}(hs:AV p.W p.H=0)(d:GY kn 0=true)(f:∀i:Int,AW p i->Yz p kn i):∀j,j<AF p.W p.H->GY kn j=true:=by
 have hN:=CG hs;have:=b3k (kn:=λj=>decide (j<AF p.W p.H)&&GY kn j) hs (λi e a b c=> ?_) ?_
 .intro j g;have:=this j g;simp only[Ke]at this;exact this.2
 .simp only[J3]at b⊢;have nb:=(GU hs (i:=(i:Int)) Dz Dz a c).1;exact⟨Dz,f (i:Int) ⟨Dz,Dz⟩ e a b.2 c⟩
 .simp only[J3];exact⟨Dz,d⟩
theorem kn_set{kn:List Bool}{n:Nat}(a:n<kn.length)(j:Nat):GY (kn.set n true) j=if j=n then true else GY kn j:=by unfold GY;exact OE a
theorem pl_nb(f:BN p=0){a:Int}{k:Nat}(b:AW p a)(i:k<3)(hb:¬BP p.W p.H a k<0):AR p.W p.H a (kE (a%4) k)=0/\BP p.W p.H a k=AE p.W p.H a (kE (a%4) k)/\(0<=BP p.W p.H a k/\BP p.W p.H a k<4*p.W*p.H)/\(JS p).getD (3*a+k).toNat QZ.d=AZ p a (kE (a%4) k):=by
 have hs:=(FN f).1;have hN:=CG hs;have ha1:=b.1;have ha2:=b.2;have c:AR p.W p.H a (kE (a%4) k)=0:=by
  by_cases q:AR p.W p.H a (kE (a%4) k)=0
  .exact q
  .exfalso;have:BP p.W p.H a k= -1:=Jj q;omega
 have j:BP p.W p.H a k=AE p.W p.H a (kE (a%4) k):=Ji c;have nb:=(GU hs b.1 b.2 NR c).1;refine⟨c,j,Dz,?_⟩;obtain⟨e,m⟩:=Xw (a:=a) b.1 i;have n:(3*a+(k:Int)).toNat<3*AF p.W p.H:=Dz;have g:uE (3*a+(k:Int)).toNat=kE (a%4) k:=by unfold uE;rw[e,m]
 have:(JS p).getD (3*a+(k:Int)).toNat QZ.d=LC p.W p.H p.l (3*a+(k:Int)).toNat:=by unfold JS;rw[Jg,K9,Ny n];rfl
 rw[this,d7a f (by rw[g,e];exact c),e,g]
theorem m25_sm{a b c d e f:Int}(h:((0<=a/\a<=300)/\(0<=b/\b<=300)/\0<=c/\c<=3)/\(0<=d/\d<=300)/\(0<=e/\e<=300)/\0<=f/\f<=3):(0<=(FF (a,b,c) (d,e,f)).1/\(FF (a,b,c) (d,e,f)).1<=7)/\(-20000<=(FF (a,b,c) (d,e,f)).2.1/\(FF (a,b,c) (d,e,f)).2.1<=20000)/\ -20000<=(FF (a,b,c) (d,e,f)).2.2/\(FF (a,b,c) (d,e,f)).2.2<=20000:=by
 unfold FF;repeat' split
 all_goals(dsimp only at*;omega)
theorem g2y(l:BN p=0)(G:PlcG p (AL p r)){a b e:Int}(d:AW p a)(f:0<=e/\e<3)(g:AR p.W p.H a e=0)(m:b=AE p.W p.H a e):(AZ p a e=0->AL p r b=AL p r a)/\(AZ p a e≠0->tt (FF (a/4%p.W,a/4/p.W,a%4) (b/4%p.W,b/4/p.W,b%4)).1 (AL p r a).t=(AL p r b).t/\(AM (AL p r a).t (FF (a/4%p.W,a/4/p.W,a%4) (b/4%p.W,b/4/p.W,b%4)).2.1 (FF (a/4%p.W,a/4/p.W,a%4) (b/4%p.W,b/4/p.W,b%4)).2.2).1+(AL p r a).x=(AL p r b).x/\(AM (AL p r a).t (FF (a/4%p.W,a/4/p.W,a%4) (b/4%p.W,b/4/p.W,b%4)).2.1 (FF (a/4%p.W,a/4/p.W,a%4) (b/4%p.W,b/4/p.W,b%4)).2.2).2+(AL p r a).y=(AL p r b).y):=by subst m;have hs:=(FN l).1;have h:=G.cr a e d f g;obtain⟨i,n,_⟩:=LD hs d f g;have j:=KZ hs d.1 d.2;have o:=KZ hs i.1 i.2;refine⟨λk=>by rw[h,Ji k],λk=> ?_⟩;rw[Jj k]at h;have c:=g3q (ON hs d) f;rw[<-n]at c;unfold DN at c;rw[j,o]at c;simp only at c;rw[<-j]at c;rw[h,<-c];exact⟨rfl,rfl,rfl⟩
end
theorem pPl25:PS 52 d69:=by
 refine con [(98,YJ),(99,Us),(47,Tl),(106,kM25),(49,Yl)] (by simpa using⟨pTab,f33,YL,pM25,pTh25⟩) FPl25 IPl25 d69 ?_ ?_ Tryz.func52 E1 E1 E1 ?_
 .intro args pre s h hp;unfold d69 at h;split at h
  .simp only[It]at h;obtain⟨⟨q,p,r⟩,hx,rfl,rfl⟩:=h;obtain⟨A,B⟩:=c19 hx hp.1;exact⟨(p,r),A,⟨B,hp.2⟩,rfl⟩
  .cases h
 .exact Bz
 .rintro⟨p,r⟩ ⟨⟨⟨bm,bv⟩,hr⟩,hb⟩;obtain⟨S,U6,_,_⟩:=Og hb;obtain⟨G,G0,GV⟩:=f6w hr.1 hb;have P:=UO hr.1 hb;have gu:=P.pl;have hs:=(FN S).1;have hw:=JU hs;have hN:=CG hs;have hWH:4*p.W*p.H=4*(p.W*p.H):=Md 4 p.W p.H;have v:(4*p.W*p.H).toNat=AF p.W p.H:=rfl;refine X0a _ ?_;(repeat' first|constructor|intro h)<;>refine Lm ?_
  all_goals(try simp only[v,CE]at*)
  all_goals(try first
   |exact Ap
   |exact Aq
   |exact⟨⟨FT _,bm⟩,bv,S⟩
   |exact Aw
   |exact Au)
  all_goals(try simp only[Iz]at h)
  all_goals(try(exfalso;omega))
  refine⟨((List.replicate (AF p.W p.H) false).set 0 true,true),⟨⟨E2,Oi _ 0 Dz⟩,λq=>by cases q⟩,?_,?_⟩
  .refine X0a _ ?_;(repeat' first|constructor|intro h)<;>refine Lm ?_
   all_goals first
    |exact A2
    |(intro j I
      have e0:GY ((List.replicate (AF p.W p.H) false).set 0 true) j=decide (j=0):=Oi _ j Dz;first
       |(show EN (decide (j=0)) [SV.bool true] [SV.bool false]=[SV.bool (GY _ j)]
         rw[e0];by_cases q:j=0
         .rw[K3 q];rfl
         .rw[K4 q];rfl)
       |(show EN (decide (j=0)) (AG.sv r) (AG.sv ⟨0,0,0⟩)=Vf p r _ j
         unfold Vf;rw[e0];by_cases q:j=0
         .subst q;rw[K3 rfl,Ji rfl,show AL p r ((0:Nat):Int)=r from G0];rfl
         .rw[K4 q];rfl))
    |skip
  .rintro⟨kn,more⟩ ⟨ok,dt⟩;refine X0a _ ?_;(repeat' first|constructor|intro h)<;>refine Lm ?_
   all_goals(try simp only[]at*)
   all_goals(try first
    |exact Ap)
   ·-- once more
    have C:more=true:=h;refine⟨((0:Int),kn,false),⟨⟨Ms _,by show (0:Int)<=AF p.W p.H;omega⟩,ok,Jp _,(λq=>by cases q),λ_ i T w=>absurd w (by show¬i<0;omega)⟩,?_,?_⟩
    .exact X1e
    .rintro⟨a,ka,U⟩ ⟨⟨a0,a1⟩,a2,a3,a4,a5⟩;refine X0a _ ?_;(repeat' first|constructor|intro h)<;>refine Lm ?_
     all_goals(try simp only[Iz]at*)
     all_goals(try first
      |exact Ap)
     .have c:AW p a:=⟨a0,Dz⟩
      have ha2:=c.2;have S7:a.toNat<AF p.W p.H:=Dz;refine⟨(0,ka,U),⟨by show 0<=3;omega,c,a2,a3,a4,λq=>⟨a5 q,λm hm=>absurd hm (K5 _)⟩⟩,?_,?_⟩
      .exact X1e
      .rintro⟨k,kb,J⟩ ⟨b1,_,n,K,L,l⟩;have bg:=c;have Zd:=GV a bg;have zi:=QT Zd;have hxa:=QI Zd;unfold GE at zi;have nbf:=λ(A:k<3) (B:¬BP p.W p.H a k<0)=>pl_nb S c A B;have M:∀u,AW p u->(0<=u/4%p.W/\u/4%p.W<=300)/\(0<=u/4/p.W/\u/4/p.W<=300)/\0<=u%4/\u%4<=3:=λu V=>by
        have:=Qh hs V.1 V.2;rw[KZ hs V.1 V.2]at this;exact this
       have w1:=M a bg;by_cases X:GY kb a.toNat=true;rotate_left
       .have hkF:GY kb a.toNat=false:=by cases h:GY kb a.toNat with
         |true=>exact absurd h X
         |false=>rfl
        refine X0a _ ?_;(repeat' first|constructor|intro h)<;>refine Lm ?_
        all_goals(try simp only[Ir,Ix,Is]at*)
        all_goals(try(exfalso;simp_all;done))
        all_goals(try first
         |exact Ap
         |(intro _;exact TS rfl S7))
        refine⟨(a+1,kb,J),⟨⟨by show 0<=a+1;omega,by show a+1<=_;omega⟩,n,K,L,λq i T w=> ?_⟩,by show _-(a+1).toNat<_-a.toNat;omega,?_⟩
        .by_cases E:i=a
         .subst E;exact f5q (l q).2 (.inr hkF)
         .exact(l q).1 i T (by have:i<a+1:=w;omega)
        .exact X1e
       .by_cases qt:k<3;rotate_left
        .refine X0a _ ?_;(repeat' first|constructor|intro h)<;>refine Lm ?_
         all_goals(try simp only[Ir,Ix,Is]at*)
         all_goals(try(exfalso;omega))
         all_goals(try first
          |exact Ap
          |(intro _;exact TS rfl S7))
         refine⟨(a+1,kb,J),⟨⟨by show 0<=a+1;omega,by show a+1<=_;omega⟩,n,K,L,λq i T w=> ?_⟩,by show _-(a+1).toNat<_-a.toNat;omega,?_⟩
         .by_cases E:i=a
          .subst E;exact f5q (l q).2 (.inl Dz)
          .exact(l q).1 i T (by have:i<a+1:=w;omega)
         .exact X1e
        .by_cases N:BP p.W p.H a k<0
         .have b9:¬AR p.W p.H a (kE (a%4) k)=0:=λq=>by
           have e:BP p.W p.H a k=AE p.W p.H a (kE (a%4) k):=Ji q;have:=(GU hs c.1 c.2 NR q).1;omega
          refine X0a _ ?_;(repeat' first|constructor|intro h)<;>refine Lm ?_
          all_goals(try simp only[Ir,Ix,Is]at*)
          all_goals(try(exfalso;first|omega|exact h N|(rcases h with h|h;omega;(rw[X]at h;cases h))|(rename_i h9;exact h9 N)))
          all_goals(try first
           |exact Ap
           |exact⟨hs,Dz,Dz⟩
           |(intro _;exact TS rfl S7))
          refine⟨(k+1,kb,J),⟨Eu,c,n,K,L,λq=>⟨(l q).1,λm hm rx Y=> ?_⟩⟩,Ev,?_⟩
          .by_cases F:m=k
           .subst F;exact absurd Y b9
           .exact(l q).2 m Dz rx Y
          .exact X1g
         .obtain⟨f1,f2,f3,f4⟩:=nbf qt N;obtain⟨g1,g2⟩:=g2y S G bg NR f1 f2;have w2:=M _ f3;have qk:=m25_sm ⟨w1,w2⟩;have Z4:((a.toNat:Nat):Int)=a:=Dz;have Zh:(BP p.W p.H a k).toNat<AF p.W p.H:=Dz;have O:(((BP p.W p.H a k).toNat:Nat):Int)=BP p.W p.H a k:=Dz;have htl:(3*a+k).toNat<(JS p).length:=by rw[b4u];omega
          have htl2:3*a+k<((JS p).length:Int):=by rw[b4u];omega
          have f:GY kb (BP p.W p.H a k).toNat=true->clK p kb a k->clK p kb a (k+1):=λo hc m hm rx Y=>by
           by_cases F:m=k
           .subst F;rw[<-f2];exact o
           .exact hc m Dz rx Y
          have Q:((kb.set (BP p.W p.H a k).toNat true)).length=AF p.W p.H:=by rw[Li];exact n.1
          have g:=λj=>@kn_set kb (BP p.W p.H a k).toNat (by rw[n.1];exact Zh) j;have R:plOK p (kb.set (BP p.W p.H a k).toNat true):=⟨Q,by rw[g];split;exact rfl;exact n.2⟩
          have x:GY kb (BP p.W p.H a k).toNat=false->(kb.set (BP p.W p.H a k).toNat true).count false+1=kb.count false:=λh=>b2z (by rw[n.1];exact Zh) h;have y:∀j,EN (decide (j=(BP p.W p.H a k).toNat)) [SV.bool true] [SV.bool (GY kb j)]=[SV.bool (GY (kb.set (BP p.W p.H a k).toNat true) j)]:=λj=>by
           rw[g];by_cases e:j=(BP p.W p.H a k).toNat
           .rw[K3 e,Ji e];rfl
           .rw[K4 e,Jj e];rfl
          have z:∀(cs:List SV) (j:Nat),cs=AG.sv (AL p r (BP p.W p.H a k))->EN (decide (j=(BP p.W p.H a k).toNat)) cs (Vf p r kb j)=Vf p r (kb.set (BP p.W p.H a k).toNat true) j:=λcs j fm=>by
           unfold Vf;rw[g];by_cases e:j=(BP p.W p.H a k).toNat
           .rw[K3 e,Ji e,Ji rfl,fm,e,O];rfl
           .rw[K4 e,Jj e,fm];rfl
          by_cases Z:AZ p a (kE (a%4) k)=0
          .have t:=g1 Z;have f5:(JS p).getD (3*a+k).toNat QZ.d=0:=f4.trans Z;refine X0a _ ?_;(repeat' first|constructor|intro h)<;>refine Lm ?_
           all_goals(try simp only[Ir,Ix,Is,X,L1,Z4,O]at*)
           all_goals(try(exfalso;first|omega|exact h f5|exact N h|(rcases h with h|h;omega;cases h)|(obtain⟨A,B⟩:=h;(simp[A,t]at B;done))))
           all_goals(try first
            |exact Ag)
           all_goals
            first
             |(have o:GY kb (BP p.W p.H a k).toNat=false:=h
               have pv:=x o;refine⟨(k+1,kb.set (BP p.W p.H a k).toNat true,true),⟨Eu,c,R,Ij,(λ_=>Ik),(λq=>by cases q)⟩,Ev,?_⟩;all_goals refine X0a _ ?_;(repeat' first|constructor|intro h)<;>refine Lm ?_
               all_goals first
                |exact An
                |(intro j I;exact y j)
                |(intro j I;exact z _ j (by rw[t];rfl))
                |skip)
             |(have o:GY kb (BP p.W p.H a k).toNat=true:=h
               refine⟨(k+1,kb,J),⟨Eu,c,n,K,L,λq=>⟨(l q).1,f o (l q).2⟩⟩,Ev,?_⟩;all_goals refine X0a _ ?_;(repeat' first|constructor|intro h)<;>refine Lm ?_
               all_goals first|exact An|skip)
             |skip
          .have t:=g2 Z;have f5:¬(JS p).getD (3*a+k).toNat QZ.d=0:=λq=>Z (f4.symm.trans q);refine X0a _ ?_;(repeat' first|constructor|intro h)<;>refine Lm ?_
           all_goals(try simp only[Ir,Ix,Is,X,L1,Z4,O]at*)
           all_goals(try(exfalso;first|omega|exact f5 h|exact N h|(rcases h with h|h;omega;cases h)|(obtain⟨A,B⟩:=h;(simp[A,t.1,t.2.1,t.2.2]at B;done))))
           all_goals(try first
            |exact Ag)
           all_goals
            first
             |(have o:GY kb (BP p.W p.H a k).toNat=false:=h
               have pv:=x o;refine⟨(k+1,kb.set (BP p.W p.H a k).toNat true,true),⟨Eu,c,R,Ij,(λ_=>Ik),(λq=>by cases q)⟩,Ev,?_⟩;all_goals refine X0a _ ?_;(repeat' first|constructor|intro h)<;>refine Lm ?_
               all_goals first
                |exact An
                |(intro j I;exact y j)
                |(intro j I;exact z _ j (by unfold AG;simp only;rw[t.1,t.2.1,t.2.2];rfl))
                |skip)
             |(have o:GY kb (BP p.W p.H a k).toNat=true:=h
               refine⟨(k+1,kb,J),⟨Eu,c,n,K,L,λq=>⟨(l q).1,f o (l q).2⟩⟩,Ev,?_⟩;all_goals refine X0a _ ?_;(repeat' first|constructor|intro h)<;>refine Lm ?_
               all_goals first|exact An|skip)
             |skip
     .refine⟨(ka,U),⟨a2,λq i w=>a5 q i w.1 (by have:=w.2;omega)⟩,?_,?_⟩
      .show 2*ka.count false+(if U=true then 1 else 0)<2*kn.count false+(if more=true then 1 else 0);have hmt:more=true:=C;rw[Ji hmt];cases U with
       |true=>have:=a4 rfl;rw[Ji rfl];omega
       |false=>rw[Jj E4];omega
      .exact X1e
   all_goals
    have bw:=cl_all hs ok.2 (dt h);first
     |(with_reducible exact gu.symm)
     |(intro j I
       unfold Vf RT.row;rw[Ji (bw j I)];unfold AL;rw[K0])
     |rfl
     |skip
def EL:RT Pas:=⟨4,λx=>[.int .i64 x.a,.int .i64 x.b,.int .u8 x.K,.int .i64 x.C],λl=>match l with
 | [.int _ a,.int _ b,.int _ c,.int _ d]=>⟨a,b,c,d⟩
 |_=>⟨0,0,0,0⟩,⟨0,0,0,0⟩,λ_=>rfl⟩
section
variable{p:Pt}{r:Mv}{P:Int->Mv}
theorem f3y{j:Nat}(h:Pq p P j=none):HV p P (j+1)=HV p P j:=by unfold HV;rw[O4,List.filterMap_append];simp[h]
theorem f4x{j:Nat}{x:Pas}(h:Pq p P j=some x):HV p P (j+1)=HV p P j++[x]:=by unfold HV;rw[O4,List.filterMap_append];simp[h]
theorem d58(n:Nat):(HV p P n).length<=n:=by unfold HV;refine Lr (List.length_filterMap_le _ _) ?_;simp
theorem f4n{a k:Nat}(hk:k<3):uA (3*a+k)=a/\(3*a+k)%3=k:=by
 constructor
 .show (((3*a+k)/3:Nat):Int)=a;omega
 .omega
theorem pas_no{a k:Nat}(b:k<3)(h:BP p.W p.H a k<a\/¬LC p.W p.H p.l (3*a+k)=0):Pq p P (3*a+k)=none:=by unfold Pq;rw[(f4n b).1,(f4n b).2,Ji h]
theorem g4d{a k:Nat}(b:k<3)(h:¬BP p.W p.H a k<a/\LC p.W p.H p.l (3*a+k)=0):Pq p P (3*a+k)=some ⟨a,BP p.W p.H a k,(HC (DN (AU p P a)) (DN (AU p P (BP p.W p.H a k)))).1,(HC (DN (AU p P a)) (DN (AU p P (BP p.W p.H a k)))).2⟩:=by unfold Pq;rw[(f4n b).1,(f4n b).2,Jj Dz]
theorem d5p{j:Nat}(a:j<3*AF p.W p.H):(JS p).getD j QZ.d=LC p.W p.H p.l j:=by unfold JS;rw[Jg,K9,Ny a];rfl
end
theorem sq_le{t X Y:Int}(hx:0<=X/\X<=300)(hy:0<=Y/\Y<=300):(-400<=(sq t X Y).1/\(sq t X Y).1<=400)/\ -400<=(sq t X Y).2/\(sq t X Y).2<=400:=by
 unfold sq;repeat' split
 all_goals(dsimp only;omega)
theorem f7k{p:Pt}{P:Int->Mv}(hs:AV p.W p.H=0){a:Int}(b:AW p a):DN (AU p P a)=((sq (P a).t (a/4%p.W) (a/4/p.W)).1+(P a).x,(sq (P a).t (a/4%p.W) (a/4/p.W)).2+(P a).y,tq (P a).t (a%4)):=by unfold AU DN BR;rw[KZ hs b.1 b.2]
def rPs28(p:Pt)(r:Mv):SV:=.sl 4 (HV p (AL p r) (3*AF p.W p.H)).length (EL.row (HV p (AL p r) (3*AF p.W p.H))) none
def d5h:AH
 | [x]=>(MZ x).map λq=>(q.1/\CH q.2.1 q.2.2.1=0,rPs28 q.2.1 q.2.2.1)
 |_=>none
def FPs28:Fam:=⟨Pt×Mv×List Stk,λ(p,r,L)=>[.agg (Co p r L)],λ(p,r,L)=>(prOK p r/\DV L)/\CH p r=0,λ(p,r,_)=>rPs28 p r⟩
def psEn(p:Pt)(r:Mv)(a:List Entry):List Entry:=a++[⟨6,none,.osl 1⟩,⟨5,none,.sl 1 (JS p).length (QZ.row (JS p)) none⟩,⟨3,none,.sl 3 (Bl p r).length (AG.row (Bl p r)) none⟩,⟨1,none,.own 0 0⟩]
def Yi(p:Pt)(r:Mv)(L:List Stk)(n:Nat):List Blk:=[.cells 39 (Co p r L),.row 117 4 (HV p (AL p r) n).length (EL.row (HV p (AL p r) n)) none]
def IPs28:Pt×Mv×List Stk->Nat->Option Inv
 |(p,r,L),5=>some {β:=Nat,ok:=λa=>a<=AF p.W p.H,st:=λa=>⟨psEn p r [⟨7,none,.int .i64 a⟩],Yi p r L (3*a)⟩,μ:=λa=>AF p.W p.H-a,nl:=[.slot 6 117 4],sub:=λa=>some fun
  |8=>some {β:=Nat,ok:=λk=>k<=3/\a<AF p.W p.H,st:=λk=>⟨psEn p r [⟨8,none,.int .i64 k⟩,⟨7,none,.int .i64 a⟩],Yi p r L (3*a+k)⟩,μ:=λk=>3-k}
  |_=>none}
 |_,_=>none
theorem pPs28:PS 45 d5h:=by
 refine con [(52,d69),(98,YJ),(99,Us),(47,Tl),(50,kImg),(100,f0q)] (by simpa using⟨pPl25,pTab,f33,YL,pImg,pBe28⟩) FPs28 IPs28 d5h ?_ ?_ Tryz.func45 E1 E1 E1 ?_
 .intro args pre s h hp;unfold d5h at h;split at h
  .simp only[It]at h;obtain⟨⟨q,p,r,L⟩,hx,rfl,rfl⟩:=h;obtain⟨h1,h2,h3⟩:=QQ hx hp.1;exact Dx
  .cases h
 .exact C0
 .rintro⟨p,r,L⟩ ⟨⟨⟨⟨J,K⟩,v⟩,hL⟩,n⟩;obtain⟨w,U6,_,_⟩:=Og n;obtain⟨G,G0,o⟩:=f6w v.1 n;have O:=UO v.1 n;have gu:=O.pl;have hs:=(FN w).1;have hN:=CG hs;have htl:=b4u p;refine X0a _ ?_;(repeat' first|constructor|intro h)<;>refine Lm ?_
  all_goals(try simp only[CE,IV,IM]at*)
  all_goals(try first
   |exact⟨⟨⟨⟨FT _,J⟩,K⟩,v⟩,n⟩
   |exact⟨⟨FT _,J⟩,K,w⟩)
  refine⟨(0:Nat),Jw _,?_,?_⟩
  .exact X1d
  .intro a M;replace M:a<=AF p.W p.H:=M;refine X0a _ ?_;(repeat' first|constructor|intro h)<;>refine Lm ?_
   all_goals(try simp only[Ir]at*)
   all_goals(try first|exact Ap)
   .have z:a<AF p.W p.H:=Dz;refine⟨(0:Nat),⟨by show 0<=3;omega,z⟩,?_,?_⟩
    .exact X1e
    .intro k A;replace A:k<=3/\a<AF p.W p.H:=A;obtain⟨k1,_⟩:=A;have f:AW p (a:Int):=⟨Dz,Dz⟩
     have hj:k<3->3*a+k<3*AF p.W p.H:=λh=>Dz;have Q:(3*(a:Int)+(k:Int)).toNat=3*a+k:=Dz;have N:=o a f;have S:=QT N;have hxa:=QI N;unfold GE at S;have hpls:∀u,AW p u->(Bl p r).getD u.toNat AG.d=AL p r u:=λu _=>rfl;have hw:=JU hs;have B:∀u,AW p u->(0<=u/4%p.W/\u/4%p.W<=300)/\(0<=u/4/p.W/\u/4/p.W<=300)/\0<=u%4/\u%4<=3:=λu b=>by have:=Qh hs b.1 b.2;rw[KZ hs b.1 b.2]at this;exact this
     have C:(Bl p r).getD a AG.d=AL p r a:=by unfold AL;rw[Int.toNat_natCast]
     have E:(Bl p r).getD (BP p.W p.H a k).toNat AG.d=AL p r (BP p.W p.H a k):=rfl;have g:∀u,AW p u->((0<=(AL p r u).t/\(AL p r u).t<=7)/\((-50000<=(AL p r u).x/\(AL p r u).x<=50000)/\ -50000<=(AL p r u).y/\(AL p r u).y<=50000)/\(-30000<=u/4%p.W/\u/4%p.W<=30000)/\(-30000<=u/4/p.W/\u/4/p.W<=30000)/\0<=u%4/\u%4<=3)/\(-30000<=(sq (AL p r u).t (u/4%p.W) (u/4/p.W)).1+(AL p r u).x/\(sq (AL p r u).t (u/4%p.W) (u/4/p.W)).1+(AL p r u).x<=30000)/\(-30000<=(sq (AL p r u).t (u/4%p.W) (u/4/p.W)).2+(AL p r u).y/\(sq (AL p r u).t (u/4%p.W) (u/4/p.W)).2+(AL p r u).y<=30000)/\0<=tq (AL p r u).t (u%4)/\tq (AL p r u).t (u%4)<=3:=λu b=>by have h1:=QT (o u b);have h2:=QI (o u b);have h3:=B u b;have h4:=@sq_le (AL p r u).t _ _ h3.1 h3.2.1;have T:=f4s (GJ (o u b)) h3.2.2;unfold GE at h1;refine⟨⟨h1,⟨Dz,Dz⟩,Dz,Dz,Dz⟩,Dz,Dz,T⟩
     have l:=g a f;have F:k<3->¬BP p.W p.H a k<a->AW p (BP p.W p.H a k):=λh1 h2=>(pl_nb w f h1 Dz).2.2.1;refine X0a _ ?_;(repeat' first|constructor|intro h)<;>refine Lm ?_
     all_goals(try simp only[Ir,Q,C,E,J6,Is]at*)
     all_goals(try first
      |exact Ap
      |exact⟨hs,f.1,f.2⟩
      |(intro _;exact⟨Dz,Dz⟩)
      |exact Aq)
     .refine⟨k+1,⟨Eu,z⟩,Ev,?_⟩;have h3:k<3:=Dz;rw[d5p (hj h3)]at h;have e:=f3y (P:=AL p r) (pas_no h3 h);rw[Lt]at e;dsimp only[Yi];rw[e];exact X1g
     all_goals
      first
       |(have h3:k<3:=by omega
         have I:=F h3 h.1;have U:=I;unfold AW at U;have m:=g _ I;first
          |exact B2
          |exact l.1
          |exact m.1
          |exact Aw
          |exact⟨l.2,m.2⟩
          |(have:=@d58 p (AL p r) (3*a+k);refine⟨Dz,?_⟩;exact MQ E1 Dz)
          |(rw[d5p (hj h3)]at h
            refine⟨k+1,⟨Eu,z⟩,Ev,?_⟩;have e:=f4x (P:=AL p r) (g4d h3 h);rw[f7k hs f,f7k hs I,Lt]at e;dsimp only[Yi];rw[e,K8,M9];all_goals refine X0a _ ?_;(repeat' first|constructor|intro h)<;>refine Lm ?_
            all_goals first|exact An|exact SC (R:=EL) rfl|skip))
       |(have h3:k=3:=by omega
         subst h3;refine⟨a+1,by show a+1<=_;omega,by show AF p.W p.H-(a+1)<AF p.W p.H-a;omega,?_⟩;have e:3*(a+1)=3*a+3:=Dz;dsimp only[Yi];rw[e];all_goals refine X0a _ ?_;(repeat' first|constructor|intro h)<;>refine Lm ?_
         all_goals first|exact An|skip)
       |skip
   all_goals
    have V:a=AF p.W p.H:=Dz;subst V;first|exact A8|skip
theorem af_lt(x y:Stk):af28 (x.c.x,x.c.y,x.c.q) (y.c.x,y.c.y,y.c.q)=1↔Ao y x=true:=by
 rw[c6y,Ju];have:BA (Bo y.c) (Bo x.c)<0↔y.c.y<x.c.y\/x.c.y=y.c.y/\(y.c.x<x.c.x\/x.c.x=y.c.x/\y.c.q<x.c.q):=by
  simp only[Bo,BA,CC];repeat' split
  all_goals omega
 rw[this];unfold af28;dsimp only;split<;>simp_all
def f2y:AH
 | [x]=>(LB x).map λq=>(q.1,EW (QL q.2))
 |_=>none
def FSo28:Fam:=⟨List Stk,λL=>[EW L],λL=>CT L,λL=>EW (QL L)⟩
def soSt(L M:List Stk)(a:List Entry):List Entry×List Blk:=(a++[⟨3,none,.osl 0⟩],[.row DR 4 L.length (AA.row M) none])
def ISo28(L:List Stk):Nat->Option Inv
 |3=>some {β:=Nat×List Stk,ok:=λ(i,M)=>1<=i/\i<=L.length+1/\Sub M L/\MF AA.d Ao 0 (L.length-i) i M=QL L,st:=λ(i,M)=>⟨(soSt L M [⟨4,none,.int .i64 i⟩]).1,(soSt L M []).2⟩,μ:=λ(i,_)=>L.length-i,sub:=λ(i,_)=>some fun
  |6=>some {β:=Nat×List Stk,ok:=λ(j,M)=>j<=i/\i<L.length/\Sub M L/\MF AA.d Ao 0 (L.length-(i+1)) (i+1) (HW AA.d Ao 0 j M)=QL L,st:=λ(j,M)=>⟨(soSt L M [⟨5,none,.int .i64 j⟩,⟨4,none,.int .i64 i⟩]).1,(soSt L M []).2⟩,μ:=λ(j,_)=>j}
  |_=>none}
 |_=>none
theorem pSo28:PS 51 f2y:=by
 refine con [(105,f2z)] (by simpa using pAf28) FSo28 ISo28 f2y ?_ ?_ Tryz.func51 E1 E1 E1 ?_
 .intro args pre s h b;unfold f2y at h;split at h
  .simp only[It]at h;obtain⟨⟨q,L⟩,hx,rfl,rfl⟩:=h;obtain⟨t,u⟩:=PC hx b;exact⟨L,⟨t,Jm⟩,u,rfl⟩
  .cases h
 .exact C0
 .intro(L:List Stk) b;replace b:CT L:=b;have hL:=b.1;refine X0b _ ?_;(repeat' first|constructor|intro h)<;>refine Lm ?_
  all_goals(try simp only[]at*)
  all_goals(try first
   |exact B4)
  all_goals(try(refine⟨Dz,?_⟩;exact MQ E1 Dz))
  refine⟨(1,L),⟨Jp _,by show 1<=L.length+1;omega,Sub.refl L,rfl⟩,?_,?_⟩
  .exact X2e
  .rintro⟨i,M⟩ ⟨i1,i2,g,i4⟩;refine X0b _ ?_;(repeat' first|constructor|intro h)<;>refine Lm ?_
   all_goals(try simp only[Ir]at*)
   all_goals(try first
    |exact B4)
   .have v:i<L.length:=Dz;refine⟨(i,M),⟨Jp _,v,g,?_⟩,?_,?_⟩
    .exact Dy
    .exact X2d
    .rintro⟨j,K⟩ ⟨j1,w,c,k⟩;have hK:=c.1;have m:((j:Int)-1).toNat=j-1:=Dz;have n:=af_lt (K.getD (j-1) AA.d) (K.getD j AA.d);by_cases f:0<j/\Ao (K.getD j AA.d) (K.getD (j-1) AA.d)=true
     .obtain⟨x,o⟩:=f;have y:=n.2 o;refine X0b _ ?_;(repeat' first|constructor|intro h)<;>refine Lm ?_
      all_goals(try simp only[Ir,Ix,m]at*)
      all_goals(try first
       |omega
       |(exfalso;omega)
       |(exfalso;rcases h with h|h;omega;exact h y)
       |exact Ai
       |(show j<L.length;omega)
       |(show j-1<L.length;omega))
      have hs:=Rt (d:=AA.d) (l:=K) (i:=j-1) (j:=j) Dz Dz;have r:FJ AA.d K (j-1) j=FJ AA.d K j (j-1):=by unfold FJ;exact List.set_comm _ _ Dz
      all_goals
       refine⟨(j-1,FJ AA.d K (j-1) j),⟨by show j-1<=i;omega,w,hs.trans c,?_⟩,by show j-1<j;omega,?_⟩
       .rw[<-k,c2k x o,r]
       .refine X0b _ ?_;(repeat' first|constructor|intro h)<;>refine Lm ?_
        all_goals first
         |exact Be
         |exact Bm
         |(intro q _;left;rw[r];exact d6n Dz Dz)
         |skip
     .refine X0b _ ?_;(repeat' first|constructor|intro h)<;>refine Lm ?_
      all_goals(try simp only[Ir,Ix,m]at*)
      all_goals(try first
       |omega
       |(exfalso;exact f ⟨Dz,n.1 h.2⟩)
       |exact Ai)
      have e:HW AA.d Ao 0 j K=K:=b88 f;all_goals
       refine⟨(i+1,K),⟨by show 1<=i+1;omega,by show i+1<=L.length+1;omega,c,by rw[<-k,e]⟩,H6,?_⟩;all_goals exact X2e
   all_goals
    have e:MF AA.d Ao 0 (L.length-i) i M=M:=by rw[show L.length-i=0 from Dz];rfl
    have z:QL L=M:=by rw[<-i4,e]
    rw[z];first|exact g.1.symm|exact A5|rfl|skip
abbrev Wg:TypeId:=69
theorem d0eq:DB.d=d0:=rfl
theorem ov_cr(b:Bool)(L:List Cr)(i:Nat)(x y:Cr):over (EN b (DB.sv x) (DB.row L i)) 0 (DB.sv y)=DB.sv y:=by cases b<;>rfl
theorem ov_cr0(L:List Cr)(i:Nat)(y:Cr):over (DB.row L i) 0 (DB.sv y)=DB.sv y:=rfl
theorem f6d{L:List Cr}{i j q:Nat}(hi:i<L.length)(c:j<L.length):
 EN (decide (q=j)) (over (EN (decide (j=i)) (over (DB.row L i) 0 (DB.sv (L.getD j DB.d))) (DB.row L j)) 0 (DB.sv (L.getD i DB.d))) (EN (decide (q=i)) (over (DB.row L i) 0 (DB.sv (L.getD j DB.d))) (DB.row L q))=DB.row (FJ DB.d L i j) q:=by
 rw[ov_cr0,ov_cr];have e:DB.row (FJ DB.d L i j) q=DB.sv ((FJ DB.d L i j).getD q DB.d):=rfl;rw[e,b7c hi c];by_cases b:q=j
 .rw[Ji b,K3 b];by_cases a:q=i
  .rw[K3 a];rfl
  .rw[K4 a];rfl
 .rw[Jj b,K4 b];by_cases a:q=i
  .rw[Ji a,K3 a];rfl
  .rw[Jj a,K4 a];rfl
theorem f4h{j:Nat}{M:List Cr}(b:0<j)(a:LP (M.getD j d0) (M.getD (j-1) d0)=true):HW d0 LP 0 j M=HW d0 LP 0 (j-1) (FJ d0 M j (j-1)):=by
 obtain⟨k,rfl⟩:∃k,j=k+1:=⟨j-1,Dz⟩
 simp only[O3]at a⊢;rw[HW,Ji ⟨b,a⟩]
theorem d8s{j:Nat}{M:List Cr}(h:¬(0<j/\LP (M.getD j d0) (M.getD (j-1) d0)=true)):HW d0 LP 0 j M=M:=by
 cases j with
 |zero=>rfl
 |succ k=>
  simp only[O3]at h;rw[HW,Jj h]
theorem f10(x y:Cr):LP y x=true↔(y.c<x.c\/(x.c=y.c/\y.e<x.e)):=by
 unfold LP;rw[Kp,Ke,Ju,Ju,Ju];constructor
 .rintro(h|⟨a,b⟩)
  .exact .inl h
  .exact .inr ⟨a.symm,b⟩
 .rintro(h|⟨a,b⟩)
  .exact .inl h
  .exact .inr ⟨a.symm,b⟩
def f2g:HK:=λa own=>match a,own with
 | [.osl 0],[.row T 3 n g _]=>if T=Wg then some ⟨DB.isL n g/\n<=1000000,.osl 0,[.row Wg 3 (DB.lst n g).length (DB.row (OV (DB.lst n g))) none],[]⟩else none
 |_,_=>none
def FOr28:FamH:=⟨List Cr,λ_=>[.osl 0],λl=>[.row Wg 3 l.length (DB.row l) none],λl=>l.length<=1000000,λ_=>.osl 0,λl=>[.row Wg 3 l.length (DB.row (OV l)) none],[]⟩
def IOr28(L:List Cr):Nat->Option Inv
 |2=>some {β:=Nat×List Cr,ok:=λ(i,M)=>1<=i/\i<=L.length+1/\Sub M L/\MF d0 LP 0 (L.length-i) i M=OV L,st:=λ(i,M)=>⟨[⟨3,none,.int .i64 i⟩,⟨0,none,.osl 0⟩],[.row Wg 3 L.length (DB.row M) none]⟩,μ:=λ(i,_)=>L.length-i,sub:=λ(i,_)=>some fun
  |5=>some {β:=Nat×List Cr,ok:=λ(j,M)=>j<=i/\i<L.length/\Sub M L/\MF d0 LP 0 (L.length-(i+1)) (i+1) (HW d0 LP 0 j M)=OV L,st:=λ(j,M)=>⟨[⟨4,none,.int .i64 j⟩,⟨3,none,.int .i64 i⟩,⟨0,none,.osl 0⟩],[.row Wg 3 L.length (DB.row M) none]⟩,μ:=λ(j,_)=>j}
  |_=>none}
 |_=>none
theorem pOr28:HS 54 f2g:=by
 refine JO {} ⟨E2,E2,E2⟩ FOr28 IOr28 f2g ?_ ?_ ?_ Tryz.func54 E1 E1 E1 ?_
 .intro args own r h b;unfold f2g at h;split at h
  .rename_i T n g c;split at h
   .rename_i w;subst w;cases h;exact⟨DB.lst n g,⟨Ea,Jm⟩,rfl,⟨⟨Em,(RT.lst_length DB n g).symm,Jm,RT.row_isL DB b.1⟩,Jm⟩,by simp only[FOr28,RT.lst_length];exact b.2,rfl,rfl,rfl⟩
   .cases h
  .cases h
 .exact C0
 .exact C5
 .intro(L:List Cr) μ b;replace b:L.length<=1000000:=b;refine X0b _ ?_;(repeat' first|constructor|intro h)<;>refine Lm ?_
  all_goals(try(simp only[];omega))
  refine⟨(1,L),⟨Jp _,by show 1<=L.length+1;omega,Sub.refl L,rfl⟩,?_,?_⟩
  .exact X2e
  .rintro⟨i,M⟩ ⟨i1,i2,m,i4⟩;refine X0b _ ?_;(repeat' first|constructor|intro h)<;>refine Lm ?_
   all_goals(try simp only[Ir]at*)
   all_goals(try first
    |exact B4)
   .have x:i<L.length:=Dz;refine⟨(i,M),⟨Jp _,x,m,?_⟩,?_,?_⟩
    .exact Dy
    .exact X2d
    .rintro⟨j,K⟩ ⟨j1,y,f,o⟩;have hK:=f.1;have s:((j:Int)-1).toNat=j-1:=Dz;have t:=f10 (K.getD (j-1) d0) (K.getD j d0);by_cases k:0<j/\LP (K.getD j d0) (K.getD (j-1) d0)=true
     .obtain⟨z,u⟩:=k;have A:=t.1 u;refine X0b _ ?_;(repeat' first|constructor|intro h)<;>refine Lm ?_
      all_goals(try simp only[Ir,Ix,J6,s,d0eq]at*)
      all_goals(try first
       |omega
       |(exfalso;omega)
       |(exfalso;rcases h with h|h;omega;exact h A)
       |exact Ai
       |(show j<L.length;omega)
       |(show j-1<L.length;omega))
      have hs:=Rt (d:=d0) (l:=K) (i:=j-1) (j:=j) Dz Dz;have v:FJ d0 K (j-1) j=FJ d0 K j (j-1):=by unfold FJ;exact List.set_comm _ _ Dz
      all_goals
       refine⟨(j-1,FJ d0 K (j-1) j),⟨by show j-1<=i;omega,y,hs.trans f,?_⟩,by show j-1<j;omega,?_⟩
       .rw[<-o,f4h z u,v]
       .refine X0b _ ?_;(repeat' first|constructor|intro h)<;>refine Lm ?_
        all_goals first
         |exact Be
         |(intro q _;left;exact f6d Dz Dz)
         |(intro q _;left;rw[v];exact f6d Dz Dz)
         |skip
     .refine X0b _ ?_;(repeat' first|constructor|intro h)<;>refine Lm ?_
      all_goals(try simp only[Ir,Ix,J6,s,d0eq]at*)
      all_goals(try first
       |omega
       |(exfalso;exact k ⟨Dz,t.2 h.2⟩)
       |exact Ai)
      have e:HW d0 LP 0 j K=K:=d8s k;all_goals
       refine⟨(i+1,K),⟨by show 1<=i+1;omega,by show i+1<=L.length+1;omega,f,by rw[<-o,e]⟩,H6,?_⟩;all_goals exact X2e
   all_goals
    have e:MF d0 LP 0 (L.length-i) i M=M:=by rw[show L.length-i=0 from Dz];rfl
    have B:OV L=M:=by rw[<-i4,e]
    rw[B];first|exact m.1.symm|exact A5|rfl|skip
def rFl28(W H:Int):SV:=.agg (Co ⟨W,H,[]⟩ CX (DT W H))
def f5a:AH
 | [.int .i64 W,.int .i64 H]=>some (AV W H=0,rFl28 W H)
 |_=>none
def FFl28:Fam:=⟨Int×Int,λ(W,H)=>[.int .i64 W,.int .i64 H],λ(W,H)=>AV W H=0,λ(W,H)=>rFl28 W H⟩
def IFl28:Int×Int->Nat->Option Inv
 |(W,H),3=>some {β:=Nat,ok:=λi=>i<=AF W H,st:=λi=>⟨[⟨6,none,.int .i64 i⟩,⟨5,none,.own 1 0⟩,⟨4,none,.own 0 0⟩,⟨1,none,.int .i64 H⟩,⟨0,none,.int .i64 W⟩],[.cells 39 [.int .i64 0,.int .i64 0,.con (.slice none 0 0),.int .u8 0,.int .i64 0,.int .i64 0,.con (.slice none 0 0)],.cells 39 [.int .i64 W,.int .i64 H,.con (.slice none 0 0),.int .u8 0,.int .i64 0,.int .i64 0,.osl 2],.row 121 4 ((DT W H).take i).length (AA.row ((DT W H).take i)) none]⟩,μ:=λi=>AF W H-i,nl:=[.cell 1 6 121 4]}
 |_,_=>none
theorem d8b{L:List Stk}{x y q:Int}{l:List Int}{n:Nat}{f:Nat->List SV}{c:Option Nat}{sz:Nat}(a:sz=1)(b:n=l.length)(d:∀j,j<n->f j=AC.row l j){j:Nat}(hj:j<L.length+1):Hl (if j<L.length then AA.row L j else(List.map (λx:Nat×List SV=>x.snd) [(0,[.int .i64 x,.int .i64 y,.int .u8 q,.sl sz n f c])].reverse).getD (j-L.length) []) (AA.row (L++[⟨⟨x,y,q⟩,l⟩]) j):=by
 subst a;by_cases e:j<L.length
 .left;rw[Ji e];unfold RT.row;rw[Jg,Jg,Jt e]
 .right;have:j=L.length:=Dz;subst this;rw[Jj e,L3];unfold RT.row;rw[Jg (l:=L++_),Jy (Jp _),L3];exact⟨rfl,rfl,rfl,⟨b,Fc,H1,d⟩,Jm⟩
theorem f41{W H:Int}(hs:AV W H=0){i:Nat}(hi:(i:Int)<4*W*H):(DT W H).take (i+1)=(DT W H).take i++[⟨⟨(i:Int)/4%W,(i:Int)/4/W,(i:Int)%4⟩,[(i:Int)]⟩]:=by have hN:=CG hs;rw[GF (d:=AA.d) (by unfold DT;simp;omega)];congr 2;unfold DT;rw[Jg,K9,Ny Dz];show (⟨AK W H i,[(i:Int)]⟩:Stk)=_;rw[KZ hs Dz hi]
theorem pFl28:PS 13 f5a:=by
 refine LV {l:=[(47,Tl)],fz:=λd=>Nat.beq d 28} ⟨by simpa using YL,E2,E2⟩ FFl28 IFl28 f5a ?_ ?_ Tryz.func13 E1 E1 E1 ?_
 .intro args pre s h a;unfold f5a at h;split at h
  .rename_i W H;cases h;exact⟨(W,H),by simp[FFl28,BK,SV.le2,SV.le1,SV.le0],a,rfl⟩
  .cases h
 .exact Bz
 .rintro⟨W,H⟩ a;replace a:AV W H=0:=a;have hN:=CG a;have hw:=JU a;refine X0b _ ?_;(repeat' first|constructor|intro h)<;>refine Lm ?_
  all_goals(try first
   |exact Ap)
  have S0:(DT W H).length=AF W H:=by unfold DT;simp
  have hWH:4*W*H=4*(W*H):=Md 4 W H;refine⟨(0:Nat),Jw _,?_,?_⟩
  .refine X0b _ ?_;(repeat' first|constructor|intro h)<;>refine Lm ?_
   all_goals first|exact A8|exact Af|skip
  .intro i c;replace c:i<=AF W H:=c;have bj:((DT W H).take i).length<=AF W H:=Fb;refine X0b _ ?_;(repeat' first|constructor|intro h)<;>refine Lm ?_
   all_goals(try simp only[Ir]at*)
   all_goals(try first
    |omega
    |exact B2
    |exact A6
    |exact A7)
   .refine⟨i+1,by show i+1<=AF W H;omega,by show AF W H-(i+1)<AF W H-i;omega,?_⟩;have e:=f41 a h;rw[e,K8,M9];refine X0b _ ?_;(repeat' first|constructor|intro h)<;>refine Lm ?_
    all_goals first
     |exact As
     |(intro q f;refine d8b (l:=[(i:Int)]) E1 rfl (λj hj=> ?_) f;have e:j=0:=Nat.lt_one_iff.1 hj;rw[e];rfl)
   all_goals
    have e:(DT W H).take i=DT W H:=Lq Dz;rw[e];first|exact As|skip
abbrev BL(p:Pt)(r:Mv):List Pas:=HV p (AL p r) (3*AF p.W p.H)
def rLn28(p:Pt)(r:Mv):SV:=.sl 2 (FB (BL p r)).length (BX.row (FB (BL p r))) none
def d5b:AH
 | [x]=>(MZ x).map λq=>(q.1/\CH q.2.1 q.2.2.1=0,rLn28 q.2.1 q.2.2.1)
 |_=>none
def FLn28:Fam:=⟨Pt×Mv×List Stk,λ(p,r,L)=>[.agg (Co p r L)],λ(p,r,L)=>(prOK p r/\DV L)/\CH p r=0,λ(p,r,_)=>rLn28 p r⟩
def lnEn(p:Pt)(r:Mv)(i:Nat)(a:List Entry):List Entry:=a++[⟨5,none,.int .i64 i⟩,⟨4,none,.sl 2 (FB ((BL p r).take i)).length (BX.row (FB ((BL p r).take i))) none⟩,⟨3,none,.sl 4 (BL p r).length (EL.row (BL p r)) none⟩,⟨1,none,.own 0 0⟩]
def ILn28:Pt×Mv×List Stk->Nat->Option Inv
 |(p,r,L),4=>some {β:=Nat,ok:=λi=>i<=(BL p r).length,st:=λi=>⟨lnEn p r i [],[.cells 39 (Co p r L)]⟩,μ:=λi=>(BL p r).length-i,sub:=λi=>some fun
  |8=>some {β:=Nat,ok:=λk=>(i<(BL p r).length/\k<=(FB ((BL p r).take i)).length)/\∀j,j<k->JP ((FB ((BL p r).take i)).getD j BX.d) (LF ((BL p r).getD i EL.d))=true,st:=λk=>⟨lnEn p r i [⟨7,none,.int .i64 k⟩,⟨6,none,.own 1 0⟩],[.cells 39 (Co p r L),.cells 27 [.int .u8 ((BL p r).getD i EL.d).K,.int .i64 ((BL p r).getD i EL.d).C]]⟩,μ:=λk=>(FB ((BL p r).take i)).length-k}
  |_=>none}
 |_,_=>none
theorem ln_len{O:List (Int×Int)}{k:Nat}{x:Int×Int}(hk:k<=O.length):0+((k:Int)-0).toNat+1+((O.length:Int)-k).toNat=(O.take k++([x]++O.drop k)).length:=by simp only[K8,Mr,List.length_drop,M9];omega
theorem ln_ins{O:List (Int×Int)}{k:Nat}{x:Int×Int}{K C:Int}(hx:x=(K,C))(hk:k<=O.length){j:Nat}(c:j<0+((k:Int)-0).toNat+1+((O.length:Int)-k).toNat):Hl (if j<0+((k:Int)-0).toNat+1 then if j<0+((k:Int)-0).toNat then if j<0 then []else BX.row O (Int.toNat 0+(j-0))else(List.map (λx:Nat×List SV=>x.snd) [(0,[SV.int .u8 K,SV.int .i64 C])].reverse).getD (j-(0+((k:Int)-0).toNat)) []else BX.row O (k+(j-(0+((k:Int)-0).toNat+1)))) (BX.row (O.take k++([x]++O.drop k)) j):=by
 left;have e:((k:Int)-0).toNat=k:=Dz;rw[e,L9]at c⊢;have a:(O.take k).length=k:=Fb;subst hx;unfold RT.row;by_cases b:j<k
 .rw[Ji Dz,Ji b,Jj (K5 _),show Int.toNat 0+(j-0)=j from Dz];rw[Jg,Jg,Jt Dz,List.getElem?_take_of_lt b]
 .by_cases d:j=k
  .subst d;rw[Ji Dz,Jj (N0 _),L3];rw[Jg (l:=O.take j++_),Jy Dz,a,L3];rfl
  .rw[Jj Dz];rw[Jg,Jg,Jy Dz,a,Jy (by rw[M9];omega),List.getElem?_drop,M9];congr 3
theorem pLn28:PS 11 d5b:=by
 refine LV {l:=[(45,d5h)],gr:=λid=>bif Nat.beq id 11 then [.orders,.fz 2,.fz 3]else []} ⟨by simpa using pPs28,E2,E2⟩ FLn28 ILn28 d5b ?_ ?_ Tryz.func11 E1 E1 E1 ?_
 .intro args pre s h hp;unfold d5b at h;split at h
  .simp only[It]at h;obtain⟨⟨q,p,r,L⟩,hx,rfl,rfl⟩:=h;obtain⟨h1,h2,h3⟩:=QQ hx hp.1;exact Dx
  .cases h
 .exact C0
 .rintro⟨p,r,L⟩ ⟨⟨⟨⟨F,G⟩,I⟩,u⟩,v⟩;have hs:=(FN (Og v).1).1;have hN:=CG hs;have bb:(BL p r).length<=1000000:=by
   have:=@d58 p (AL p r) (3*AF p.W p.H);have hw:=JU hs;show (HV p (AL p r) (3*AF p.W p.H)).length<=_;omega
  refine X0a _ ?_;(repeat' first|constructor|intro h)<;>refine Lm ?_
  all_goals(try simp only[CE,RT.lst_row,IV,IM]at*)
  all_goals(try exact⟨⟨⟨⟨FT _,F⟩,G,I⟩,MS L u.1,u.2⟩,v⟩)
  refine⟨(0:Nat),Jw _,?_,?_⟩
  .refine X0b _ ?_;(repeat' first|constructor|intro h)<;>refine Lm ?_
   all_goals first|exact A8|exact A5|skip
  .intro i w;replace w:i<=(BL p r).length:=w;refine X0b _ ?_;(repeat' first|constructor|intro h)<;>refine Lm ?_
   all_goals(try simp only[Ir]at*)
   all_goals(try first
    |exact Ap)
   .have m:i<(BL p r).length:=Dz;have J:=@f3j (BL p r) i EL.d m;have me:(FB ((BL p r).take i)).length<=1000000:=by
     have:=g3i ((BL p r).take i);rw[Mr]at this;omega
    refine⟨(0:Nat),⟨⟨m,Jw _⟩,λj y=>absurd y (K5 _)⟩,?_,?_⟩
    .exact X2d
    .intro k n;replace n:(i<(BL p r).length/\k<=(FB ((BL p r).take i)).length)/\∀j,j<k->JP ((FB ((BL p r).take i)).getD j BX.d) (LF ((BL p r).getD i EL.d))=true:=n;obtain⟨⟨_,k1⟩,k2⟩:=n;have o:=d09 (x:=LF ((BL p r).getD i EL.d)) (FB ((BL p r).take i)) k k1 k2;have z:(LF ((BL p r).getD i EL.d)).1=((BL p r).getD i EL.d).K:=rfl;have A:(LF ((BL p r).getD i EL.d)).2=((BL p r).getD i EL.d).C:=rfl;by_cases g:k<(FB ((BL p r).take i)).length/\JP ((FB ((BL p r).take i)).getD k BX.d) (LF ((BL p r).getD i EL.d))=true
     .obtain⟨v7,B⟩:=g;have c:=b3i.1 B;rw[z,A]at c;clear o;refine X0b _ ?_;(repeat' first|constructor|intro h)<;>refine Lm ?_
      all_goals(try simp only[Ir,Ix,J6,Is,Me]at*)
      all_goals(try first
       |exact Ap
       |(intro _;omega))
      refine⟨k+1,⟨⟨m,Dz⟩,λj y=> ?_⟩,Gc,?_⟩
      .by_cases e:j=k
       .subst e;exact B
       .exact k2 j Dz
      .refine X0b _ ?_;(repeat' first|constructor|intro h)<;>refine Lm ?_
       all_goals first|exact Ba|omega|skip
     .have c:¬(k<(FB ((BL p r).take i)).length/\(((FB ((BL p r).take i)).getD k BX.d).1<((BL p r).getD i EL.d).K\/((FB ((BL p r).take i)).getD k BX.d).1=((BL p r).getD i EL.d).K/\((FB ((BL p r).take i)).getD k BX.d).2<((BL p r).getD i EL.d).C)):=λq=>g ⟨q.1,b3i.2 (by rw[z,A];exact q.2)⟩;have b:=o λq h=>g ⟨q,h⟩;rw[<-J]at b;clear o k2 g;by_cases f:k<(FB ((BL p r).take i)).length/\(FB ((BL p r).take i)).getD k BX.d=LF ((BL p r).getD i EL.d)
      .rw[Ji f]at b;obtain⟨zg,E⟩:=f;have t:((FB ((BL p r).take i)).getD k BX.d).1=((BL p r).getD i EL.d).K:=by rw[E];rfl
       have hd4:((FB ((BL p r).take i)).getD k BX.d).2=((BL p r).getD i EL.d).C:=by rw[E];rfl
       refine X0b _ ?_;(repeat' first|constructor|intro h)<;>refine Lm ?_
       all_goals(try simp only[Ir,Ix,J6,Is,Me]at*)
       all_goals(try first
        |exact Ap
        |(intro _;omega))
       refine⟨i+1,Eg,Ed,?_⟩;all_goals refine X0b _ ?_;(repeat' first|constructor|intro h)<;>refine Lm ?_
       all_goals first|rfl|(rw[b];done)|(rw[b];exact λ_ _=>.inl rfl)|exact A5|omega|skip
      .rw[Jj f]at b;have t:¬(k<(FB ((BL p r).take i)).length/\((FB ((BL p r).take i)).getD k BX.d).1=((BL p r).getD i EL.d).K/\((FB ((BL p r).take i)).getD k BX.d).2=((BL p r).getD i EL.d).C):=λq=>f ⟨q.1,Prod.ext q.2.1 q.2.2⟩;clear f;refine X0b _ ?_;(repeat' first|constructor|intro h)<;>refine Lm ?_
       all_goals(try simp only[Ir,Ix,J6,Is,Me]at*)
       all_goals(try first
        |exact Ap
        |(intro _;omega)
        |exact B8
        |exact A7)
       all_goals
        refine⟨i+1,Eg,Ed,?_⟩;all_goals refine X0b _ ?_;(repeat' first|constructor|intro h)<;>refine Lm ?_
        all_goals(try first|exact Ba)
        all_goals rw[b]
        all_goals first
         |exact ln_len k1
         |exact λ_ h=>ln_ins rfl k1 h
         |skip
   all_goals
    have M:i=(BL p r).length:=Dz;rw[M,Kw];first|exact Ba|skip
def HB(S A:List Stk)(q:Nat):Bool:=decide (q<S.length)&& !(A.any λx=>decide (x.c=(S.getD q AA.d).c))
theorem Ti{S A:List Stk}{q:Nat}:HB S A q=true↔q<S.length/\(S.getD q AA.d).c∉A.map (·.c):=by unfold HB;rw[Ke,Ju,N8,K2];simp only[Ju,Jx,not_exists,not_and]
theorem d6u(S:List Stk)(q:Nat):HB S [] q=decide (q<S.length):=by unfold HB;simp
theorem f4r{A:List Stk}(nA:CV A){i:Nat}(hi:i<A.length):(A.getD i AA.d).c∉(A.take i).map (·.c):=by
 unfold CV at nA;have h:(A.take (i+1)).map (·.c)=(A.take i).map (·.c)++[(A.getD i AA.d).c]:=by rw[GF (d:=AA.d) hi,Lv];rfl
 have a:((A.take (i+1)).map (·.c)).Nodup:=N4 ((List.take_sublist _ _).map _) nA;rw[h,Mz]at a;exact λb=>a.2.2 _ b _ E2 rfl
theorem nd_eq{S:List Stk}(a:CV S){j k:Nat}(b:j<S.length)(f:k<S.length)(h:(S.getD j AA.d).c=(S.getD k AA.d).c):j=k:=by
 rcases My j k with e|e|e
 .exfalso;refine f4r a f ?_;rw[<-h];refine Jx.2 ⟨S.getD j AA.d,?_,rfl⟩;rw[Jg,Jh b];exact List.mem_take_iff_getElem.2 ⟨j,Dz,rfl⟩
 .exact e
 .exfalso;refine f4r a b ?_;rw[h];refine Jx.2 ⟨S.getD k AA.d,?_,rfl⟩;rw[Jg,Jh f];exact List.mem_take_iff_getElem.2 ⟨k,Dz,rfl⟩
section
variable{over:Bool}{S A:List Stk}{i k:Nat}
theorem d4u(nA:CV A)(hi:i<A.length)(f:k<(AX over S (A.take i)).length)(a:((AX over S (A.take i)).getD k AA.d).c=(A.getD i AA.d).c):k<S.length/\(S.getD k AA.d).c=(A.getD i AA.d).c/\(AX over S (A.take i)).getD k AA.d=S.getD k AA.d/\HB S (A.take i) k=true:=by
 have hx:=f4r nA hi;by_cases h:k<S.length
 .obtain⟨g1,g⟩:=@YW over (A.take i) S k h;have b:(S.getD k AA.d).c=(A.getD i AA.d).c:=g1.symm.trans a;have e:(S.getD k AA.d).c∉(A.take i).map (·.c):=by rw[b];exact hx
  exact⟨h,b,g e,Ti.2 ⟨h,e⟩⟩
 .exfalso;have:=@c8t over (A.take i) S k Dz f;rw[a]at this;exact hx this
theorem f7d(h:CV S)(hi:i<A.length)(j:k<S.length)(g:(S.getD k AA.d).c=(A.getD i AA.d).c){q:Nat}:HB S (A.take (i+1)) q=(!decide (q=k)&&HB S (A.take i) q):=by
 rw[Lw,Ke,Ti,Ti,GF (d:=AA.d) hi,Lv,K6,not_or,N8,L8];simp only[L4,List.map_nil,Kb];constructor
 .rintro⟨b,a,f⟩;refine⟨λe=> ?_,b,a⟩;subst e;exact f g
 .rintro⟨b,a,f⟩;exact⟨a,f,λe=>b (nd_eq h a j (e.trans g.symm))⟩
theorem d35(hi:i<A.length)(f:∀j,j<(AX over S (A.take i)).length->((AX over S (A.take i)).getD j AA.d).c≠(A.getD i AA.d).c){q:Nat}:HB S (A.take (i+1)) q=HB S (A.take i) q:=by
 rw[Lw,Ti,Ti,GF (d:=AA.d) hi,Lv,K6,not_or];simp only[L4,List.map_nil,Kb];constructor
 .rintro⟨a,b,h3⟩;exact⟨a,b⟩
 .rintro⟨a,b⟩;refine⟨a,b,λe=> ?_⟩;have hl:=(@WH over (A.take i) S).1;exact f q Dz (((@YW over (A.take i) S q a).1).trans e)
end
end Go.Proofs.YtlffhjfkaepimaaGreatDoor.V
