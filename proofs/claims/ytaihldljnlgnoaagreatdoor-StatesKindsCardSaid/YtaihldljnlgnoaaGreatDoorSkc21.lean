/-
  Parts of the proof: D30 D32. Conditions: none.
-/
import Derived.Test.YtaihldljnlgnoaaGreatDoorSkc13
import Derived.Test.YtaihldljnlgnoaaGreatDoorSkc15
set_option maxRecDepth 100000
set_option maxHeartbeats 40000000
namespace Go.Proofs.YtaihldljnlgnoaaGreatDoor.V
open Go
theorem add_ls{b:Bd}{u e:Int}{s:Sm}{x:Lo}(h:x∈s.ls):x∈(HL b u e s).ls:=by
 unfold HL;split
 .split
  .exact h
  .split
   .exact h
   .exact Lv _ h
 .exact h
theorem d8k{b:Bd}{u e:Int}{S:List Sm}{s:Sm}{x:Lo}(hs:s∈S)(hx:x∈s.ls):∃t∈GO b u e S,x∈t.ls:=by
 have f:s∈DT S (Dl b u) (EV b u e):=by
  unfold DT;split
  .exact hs
  .exact Lv _ hs
 obtain⟨j,hj,c⟩:=NH (d:=BD) f;have g:=Rr S (Dl b u) (EV b u e);have b6:=LY g;have hl:=b4b b u e S;by_cases a:j=CQ (DT S (Dl b u) (EV b u e)) (IR (Dl b u) (EV b u e))
 .refine⟨_,CP (d:=BD) (i:=j) Dx,?_⟩;rw[a,c3q,<-a,c];exact add_ls hx
 .refine⟨_,CP (d:=BD) (i:=j) Dx,?_⟩;rw[d4m a,c];exact hx
section
variable{p q:Pt}{r:Mv}{L:List Stk}{B:Int}
def LoOf(x:Lo)(u v:Int):Prop:=(x.a=u/\x.b=v)\/(x.a=v/\x.b=u)
theorem c1u:∀(k u e:Nat),e<3->3*u+e<k->AU p.W p.H (u:Int) (e:Int)=0->¬AF p.W p.H (u:Int) (e:Int)<(u:Int)->AZ p (u:Int) (e:Int)≠0->∃s∈EJ (BF p r L) k,∃x∈s.ls,LoOf x (u:Int) (AF p.W p.H (u:Int) (e:Int))
 |0,_,_,_,h,_,_,_=>absurd h (Jv _)
 |k+1,u,e,c,h,f,g,j=>by
  by_cases l:3*u+e<k
  .obtain⟨s,hs,x,hx,m⟩:=c1u k u e c l f g j;obtain⟨t,n,o⟩:=d8k (b:=BF p r L) (u:=((k/3:Nat):Int)) (e:=((k%3:Nat):Int)) hs hx;exact⟨t,n,x,o,m⟩
  .have q:k=3*u+e:=Dx;subst q;rw[b75 _ c];have hl:=b4b (BF p r L) (u:Int) (e:Int) (EJ (BF p r L) (3*u+e));have hh:=LY (Rr (EJ (BF p r L) (3*u+e)) (Dl (BF p r L) u) (EV (BF p r L) u e));refine⟨_,CP (d:=BD) (i:=CQ (DT (EJ (BF p r L) (3*u+e)) (Dl (BF p r L) u) (EV (BF p r L) u e)) (IR (Dl (BF p r L) u) (EV (BF p r L) u e))) Dx,?_⟩;rw[c3q];unfold HL;rw[J7 (show AU (BF p r L).p.W (BF p r L).p.H u e=0 from f),J8 (show¬AF (BF p r L).p.W (BF p r L).p.H u e<u from g),J8 (show¬AZ (BF p r L).p u e=0 from j)];refine⟨_,M1 _ (Jw.2 rfl),?_⟩;unfold LoOf;dsimp only;by_cases a:(BF p r L).ht.getD (u:Int).toNat 0<(BF p r L).ht.getD (AF (BF p r L).p.W (BF p r L).p.H u e).toNat 0
   .rw[J7 a,J7 a];exact .inl ⟨rfl,rfl⟩
   .rw[J8 a,J8 a];exact .inr ⟨rfl,rfl⟩
theorem d9v{S:List Sm}(c:(S.map BU).Nodup){s:Sm}(hs:s∈S):S.getD (CQ S (BU s)) BD=s:=by
 have k:DR S (BU s)=true:=Jp.2 ⟨s,hs,Dz⟩;have a:=LY k;have l:=b4e k;obtain⟨j,b,e⟩:=NH (d:=BD) hs;by_cases m:j=CQ S (BU s)
 .rw[<-m];exact e
 .exfalso;rw[List.Nodup,Kg]at c;have g:∀i (f:i<S.length),(S.map BU)[i]'(by rw[K8];exact f)=BU (S.getD i BD):=λi f=>by
   rw[Mg,J5,J6 f];rfl
  rcases Mt m with h|h
  .refine c j (CQ S (BU s)) (by rw[K8];exact b) (by rw[K8];exact a) h ?_;rw[g j b,g _ a,l,e]
  .refine c (CQ S (BU s)) j (by rw[K8];exact a) (by rw[K8];exact b) h ?_;rw[g j b,g _ a,l,e]
theorem of_has(h:CX p r L=0){s:Sm}(hs:s∈FR p r L){x:Lo}(hx:x∈s.ls):∃t∈EP p r L,x∈t.ls:=by
 have c:IP s∈DW p r L:=c6v.2 ⟨s,hs,rfl⟩;refine⟨Kl (BF p r L) ((FR p r L).getD (CQ (FR p r L) (BU (sN (IP s).a (IP s).b))) BD),?_,?_⟩
 .rw[d23 h];exact Js.2 ⟨_,c,rfl⟩
 .have e:BU (sN (IP s).a (IP s).b)=BU s:=rfl;have d:(FR p r L).getD (CQ (FR p r L) (BU s)) BD=s:=d9v (b6d (BF p r L) _) hs;rw[e,d];exact(Qv _ _ _).2 hx
theorem lo_has(hs:AP p.W p.H=0)(h:CX p r L=0){u e:Int}(a:CL p u e)(b:¬Al p u e<u)(c:AZ p u e≠0):∃x∈JR (EP p r L),LoOf x u (Al p u e):=by
 obtain⟨⟨h0,h1⟩,he,d⟩:=a;have hN:=CF hs;obtain⟨n,rfl⟩:∃n:Nat,u=n:=⟨u.toNat,Dx⟩
 obtain⟨m,rfl⟩:∃m:Nat,e=m:=⟨e.toNat,Dx⟩
 obtain⟨s,hs,x,hx,f⟩:=c1u (p:=p) (r:=r) (L:=L) (3*AG p.W p.H) n m Dx Dx d b c;obtain⟨t,g,i⟩:=of_has h hs hx;exact⟨x,Mi.2 ⟨t,g,i⟩,f⟩
theorem f6y(S:SkOK p r L)(h:CX p r L=0){x:Lo}(hx:x∈JR (EP p r L)):∃e,CL p x.a e/\AZ p x.a e≠0/\Al p x.a e=x.b/\Co (AY L (AR p (AL p r) x.a)) x.a x.b/\GU p (CS p r) x=(CR p.W p.H x.a e,if(AL p r x.b).t<4 then 1 else 2):=by
 obtain⟨s,hs,hx⟩:=Mi.1 hx;have F:=WG S;have hN:=CF S.hs;obtain⟨n,o⟩:=c3g S h hs;obtain⟨⟨e,c,u,i,j,h5⟩,e',g1,g2,g3,v,g5⟩:=b9f S n hx;have k:x.a∈AY L (CW s x.s):=(F.mem _ _).2 ⟨c.1,j⟩;have l:=o x hx;rw[c6r S c.1,c6r S g1.1,j,v]at l;have w:x.a≠x.b:=λq=>by have m:=(KG S.hs c.1 c.2.1 c.2.2).2.1;have g:AF p.W p.H x.a e=x.b:=i;rw[g,<-q]at m;exact Vm (IY S.hs c.1.1 c.1.2).2.2.1 c.2.1 m.symm
 have z:BV (AY L (CW s x.s)) x.a<BV (AY L (CW s x.s)) x.b:=by
  rcases Int.lt_or_eq_of_le l with q|q
  .exact q
  .exact absurd (d5q (JO.2 k) q) w
 have A:=NR (JO.2 k) z;refine⟨e,c,u,i,by rw[j];exact A,Prod.ext ?_ ?_⟩
 .have g:AF p.W p.H x.a e=x.b:=i;have f:=KG S.hs c.1 c.2.1 c.2.2;rw[g]at f;unfold GU CR EA ET TT RM;rw[J7 c.2.2,J7 c.2.2,g];rcases Int.le_total x.a x.b with q|q
  .have:Mo p.W p.H (min x.a x.b) (max x.a x.b)=some e:=by
    rw[Int.min_eq_left q,Int.max_eq_right q];exact YV S.hs c.1 c.2.1 c.2.2 g
   rw[this];rfl
  .have:Mo p.W p.H (min x.a x.b) (max x.a x.b)=some e:=by
    rw[Int.min_eq_right q,Int.max_eq_left q];exact YV S.hs f.1 c.2.1 f.2.2.1 f.2.2.2
   rw[this];rfl
 .show TI (CS p r) x.b=_;have B:=S.P.vm x.b.toNat (by have:=g1.1;unfold AQ at this;omega)
  have C:x.b.toNat<(BC p r).length:=I6;have E:(CS p r).getD x.b.toNat FY.d=Ol (AL p r x.b):=by unfold CS AL;rw[J5,J5,Jz,J6 C];rfl
  have G:(Ol (AL p r x.b)=true)↔(AL p r x.b).t<4:=by have I:DP (AL p r x.b).t (AL p r x.b).x (AL p r x.b).y=0:=B.2;unfold Ol;rw[I];simp
  unfold TI;rw[E];simp only[G]
structure AnyOf (p q:Pt):Prop where
 W:q.W=p.W
 H:q.H=p.H
 len:q.l.length=p.l.length
 cr:∀i,i<p.l.length->(q.l.getD i d0).c=(p.l.getD i d0).c/\(q.l.getD i d0).e=(p.l.getD i d0).e/\((q.l.getD i d0).k=(p.l.getD i d0).k\/(q.l.getD i d0).k=3)
namespace AnyOf
theorem mem(Q:AnyOf p q){x:Cr}(h:x∈q.l):∃y∈p.l,x.c=y.c/\x.e=y.e/\(x.k=y.k\/x.k=3):=by obtain⟨i,a,rfl⟩:=NH (d:=d0) h;rw[Q.len]at a;exact⟨_,CP (d:=d0) a,Q.cr i a⟩
theorem mem'(Q:AnyOf p q){y:Cr}(h:y∈p.l):∃x∈q.l,x.c=y.c/\x.e=y.e/\(x.k=y.k\/x.k=3):=by obtain⟨i,a,rfl⟩:=NH (d:=d0) h;exact⟨_,CP (d:=d0) (by rw[Q.len];exact a),Q.cr i a⟩
theorem pat(Q:AnyOf p q)(h:BG p=0):BG q=0:=by
 obtain⟨e,f,g,j⟩:=FI h;unfold BG;rw[Q.W,Q.H,if_pos e,if_neg,if_neg,if_neg]
 .intro a;obtain⟨i,d,a⟩:=List.any_eq_true.1 a;rw[List.mem_range,Q.len]at d;have:=List.any_eq_false.1 j i (List.mem_range.2 d);unfold OJ at a this;obtain⟨k,l,_⟩:=Q.cr i (by omega);obtain⟨m,n,_⟩:=Q.cr (i+1) (by omega);rw[k,l,m,n]at a;exact this a
 .intro a;obtain⟨x,hx,a⟩:=List.any_eq_true.1 a;obtain⟨y,c,o,r,_⟩:=Q.mem hx;have:=List.any_eq_false.1 g y c;unfold PD at a this;rw[Q.W,Q.H,o,r]at a;exact this a
 .intro a;obtain⟨x,hx,a⟩:=List.any_eq_true.1 a;obtain⟨y,c,_,_,b⟩:=Q.mem hx;have:=List.any_eq_false.1 f y c;unfold LG at a this;rcases b with b|b
  .rw[b]at a;exact this a
  .rw[b]at a;exact absurd a (by decide)
theorem kd(Q:AnyOf p q)(h:BG p=0){i e:Int}(d:AU p.W p.H i e=0):(AZ q i e=0↔AZ p i e=0)/\(AZ q i e=AZ p i e\/AZ q i e=3):=by
 have j:=Q.pat h;have m:AU q.W q.H i e=0:=by rw[Q.W,Q.H];exact d
 have n:CR q.W q.H i e=CR p.W p.H i e:=by rw[Q.W,Q.H]
 obtain⟨_,o,_,_⟩:=FI h;cases hc:EF p.l (CR p.W p.H i e)with
 |false=>
  have r:EF q.l (CR q.W q.H i e)=false:=by unfold EF at hc⊢;rw[List.any_eq_false]at hc⊢;intro x hx a;obtain⟨y,b,f,g,_⟩:=Q.mem hx;refine hc y b ?_;unfold FS at a⊢;rw[n,f,g]at a;exact a
  rw[YM h d hc,YM j m r];exact⟨Iff.rfl,.inl rfl⟩
 |true=>
  obtain⟨y,b,a⟩:=c59 hc;obtain⟨x,hx,f,g,c⟩:=Q.mem' b;have s:FS (CR q.W q.H i e) x=true:=by unfold FS at a⊢;rw[n,f,g];exact a
  rw[Qk h d b a,Qk j m hx s];have t:y.k≠0:=λz=>by have:=List.any_eq_false.1 o y b;unfold LG at this;rw[z]at this;exact this (by decide)
  rcases c with c|c
  .rw[c];exact⟨Iff.rfl,.inl rfl⟩
  .rw[c];exact⟨⟨λz=>absurd z (by decide),λz=>absurd z t⟩,.inr rfl⟩
theorem plc(Q:AnyOf p q)(h:BG p=0){P:Int->Mv}(G:PlcG p P):PlcG q P:=by
 have b:∀i,AQ q i->AQ p i:=λi a=>by unfold AQ at a⊢;rw[Q.W,Q.H]at a;exact a
 refine⟨λi a=>G.ok i (b i a),λi e a f c=> ?_⟩;rw[Q.W,Q.H]at c⊢;rw[G.cr i e (b i a) f c];by_cases d:AZ p i e=0
 .rw[if_pos d,if_pos ((Q.kd h c).1.2 d)]
 .rw[if_neg d,if_neg λz=>d ((Q.kd h c).1.1 z)]
end AnyOf
theorem any_ok(X:StG p r L (AL p r) B)(hB:B<=4000)(hu8:∀c∈p.l,AD .u8 c.e)(hq4:∀s∈L,AD .u8 s.c.q)(Q:AnyOf p q):CO q r L=0/\XA q r L=p/\BC q r=BC p r:=by
 have hs:=X.hs;have hN:=CF hs;have P6:=Q.pat X.hp;have hr:0<=r.t:=by rw[<-X.r0];exact(X.G.ok 0 ⟨Int.le_refl _,by omega⟩).1.1
 have zu:AP q.W q.H=0:=by rw[Q.W,Q.H];exact hs
 have Yy:AG q.W q.H=AG p.W p.H:=by rw[Q.W,Q.H]
 have O:∀i,AQ q i->AQ p i:=λi A=>by unfold AQ at A⊢;rw[Q.W,Q.H]at A;exact A
 have Gq:=Q.plc X.hp X.G;have C:∀(P:Int->Mv) i,AR q P i=AR p P i:=λP i=>by unfold AR;rw[Q.W,Q.H]
 have u:∀(P:Int->Mv) i e,BO q P i e=BO p P i e:=λP i e=>by unfold BO;rw[Q.W,Q.H]
 have n:∀i e,CL q i e->CL p i e:=λi e h=>⟨O i h.1,h.2.1,by have:=h.2.2;rw[Q.W,Q.H]at this;exact this⟩
 have o:∀i e,Al q i e=Al p i e:=λi e=>by unfold Al;rw[Q.W,Q.H]
 obtain⟨bq,I⟩:=d5p P6 Gq X.r0 λi A=>by rw[C];exact X.vm hB (O i A)
 have bp:=(X.places hB).1;have R:=Oy hr bq;have Z:=Oy hr bp;have S:BC q r=BC p r:=by
  apply List.ext_getElem
  .rw[R.pl,Z.pl,Yy]
  .intro i d f;have A:AQ q (i:Int):=by
    rw[R.pl]at d;have:=CF zu;exact⟨by omega,by omega⟩
   have:=I i A;unfold AL at this;rw[Int.toNat_natCast]at this;rw[List.getD_eq_getElem?_getD,List.getD_eq_getElem?_getD,List.getElem?_eq_getElem d,List.getElem?_eq_getElem f]at this;exact this
 have eim:CC q r=CC p r:=by
  apply List.ext_getElem
  .rw[R.il,Z.il,Yy]
  .intro i d f;have a1:=(R.im i (by rw[R.il]at d;exact d)).1;have a2:=(Z.im i (by rw[Z.il]at f;exact f)).1;rw[S,Q.W,Q.H]at a1;rw[<-a2,List.getD_eq_getElem?_getD,List.getD_eq_getElem?_getD,List.getElem?_eq_getElem d,List.getElem?_eq_getElem f]at a1;exact a1
 have skp:=X.sk hB;have E:CX q r L=0:=by obtain⟨_,z2,z3,z4⟩:=Vt skp;unfold CX;rw[if_pos bq,Q.W,Q.H,if_pos z2,eim,if_neg (by rw[z3];decide),if_neg (by rw[z4];decide)]
 have Sq:=Yg E hr hq4;have Nq:NcG q (AL q r) (AY L):=by
  refine g0g I ?_;refine⟨λi e j k A hj ki kj F M=> ?_,λi e a k A ha ki ka F d f=> ?_,λa k b m ha M ka kb F d f J=> ?_⟩
  .have T:=n _ _ A;have bn:=n _ _ hj;rw[u,u]at F;rw[C]at M;rw[u,o,o];exact X.N.pp i e j k T bn ((Q.kd X.hp T.2.2).1.1 ki) ((Q.kd X.hp bn.2.2).1.1 kj) F M
  .have T:=n _ _ A;have U:=n _ _ ha;rw[u,u]at F;rw[C]at d f;rw[o]at f;exact X.N.pl i e a k T U ((Q.kd X.hp T.2.2).1.1 ki) (λz=>ka ((Q.kd X.hp U.2.2).1.2 z)) F d f
  .have U:=n _ _ ha;have gb:=n _ _ M;rw[u,u]at F;rw[C]at d f J;rw[o]at f J;rw[o]at J;exact X.N.ll a k b m U gb (λz=>ka ((Q.kd X.hp U.2.2).1.2 z)) (λz=>kb ((Q.kd X.hp gb.2.2).1.2 z)) F d f J
 have lk:∀x∈JR (EP q r L),∃e,CL q x.a e/\GU q (CS q r) x=(CR q.W q.H x.a e,AZ p x.a e):=λx hx=>by
  obtain⟨e,d,f,J,h4,h5⟩:=f6y Sq E hx;have V:=n _ _ d;have h2':AZ p x.a e≠0:=λz=>f ((Q.kd X.hp V.2.2).1.2 z);refine⟨e,d,?_⟩;rw[h5];have ei:AR q (AL q r) x.a=AR p (AL p r) x.a:=by rw[C];unfold AR;rw[I _ d.1]
  rw[ei]at h4;rw[o]at J;have hd:=X.D x.a e V h2' (by rw[J];exact h4);rw[J]at hd;have M:AQ q x.b:=by have w:=(PN hs V).1.1;rw[J]at w;unfold AQ at w⊢;rw[Q.W,Q.H];exact w
  rw[hd,I x.b M]
 refine⟨?_,?_,S⟩
 .unfold CO;rw[if_neg (λz=>z E),if_neg (λz=>z (f5d Sq E Nq)),if_neg];intro v;unfold NZ at v;obtain⟨s,hs',v⟩:=List.any_eq_true.1 v;obtain⟨x,hx,v⟩:=List.any_eq_true.1 v;obtain⟨e,d,f⟩:=lk x (List.mem_flatMap.2 ⟨s,hs',hx⟩);rw[f]at v;unfold Vl at v;have hk:=(Q.kd X.hp (n _ _ d).2.2).2;dsimp only at v;rw[c2q P6 d.2.2]at v;rcases hk with hk|hk<;>rw[hk]at v<;>simp at v
 ·-- the map of the kinds
  have de:∀(l:List Lo) (K:(List Int->Bool)×(List Int->Int)) (g:List Int),(∀x∈l,(GU q (CS q r) x).2=KW p.l (GU q (CS q r) x).1)->((∃x∈l,(GU q (CS q r) x).1=g)\/K.2 g=KW p.l g)->(LB q (CS q r) K l).2 g=KW p.l g:=by
   intro l;induction l with
   |nil=>
    intro K g _ h;rcases h with⟨x,hx,_⟩|h
    .cases hx
    .exact h
   |cons y l ih=>
    intro K g d f;refine ih (c63 q (CS q r) K y) g (λx hx=>d x (List.mem_cons_of_mem _ hx)) ?_;by_cases hy:g=(GU q (CS q r) y).1
    .right;show PA K.2 _ _ g=_;unfold PA;rw[if_pos hy,d y (by simp),hy]
    .rcases f with⟨x,hx,he⟩|f
     .rcases List.mem_cons.1 hx with rfl|hx
      .exact absurd he.symm hy
      .exact .inl ⟨x,hx,he⟩
     .right;show PA K.2 _ _ g=_;unfold PA;rw[if_neg hy];exact f
  have c6:∀x∈JR (EP q r L),(GU q (CS q r) x).2=KW p.l (GU q (CS q r) x).1:=λx hx=>by obtain⟨e,d,f⟩:=lk x hx;rw[f,Q.W,Q.H];exact(c2q X.hp (n _ _ d).2.2).symm
  obtain⟨_,Z8,_,_⟩:=FI X.hp;have one:∀c∈p.l,kdAt (UN q r L) [c.c,c.e]=c.k:=λc v=>by
   obtain⟨i1,i2,w,n2⟩:=c69 X.hp hu8 v;have n3:ET p.W p.H c.c c.e=c.e:=by unfold ET;rw[if_pos w]
   have hE:CL p c.c c.e:=⟨i1,i2,w⟩
   have hu:CR p.W p.H c.c c.e=[c.c,c.e]:=by unfold CR;rw[n2,n3]
   have Y:FS (CR p.W p.H c.c c.e) c=true:=by unfold FS;rw[hu];exact decide_eq_true rfl
   have qj:=Qk X.hp w v Y;have b9:AZ p c.c c.e≠0:=λz=>by have:=List.any_eq_false.1 Z8 c v;unfold LG at this;rw[<-qj,z]at this;exact this (by decide)
   have b6:¬Al p c.c c.e<c.c:=by unfold EA at n2;rw[if_pos w]at n2;have:min c.c (AF p.W p.H c.c c.e)=c.c:=n2;have:=Int.min_le_right c.c (AF p.W p.H c.c c.e);show¬AF p.W p.H c.c c.e<c.c;omega
   have hEq:CL q c.c c.e:=⟨by have:=hE.1;unfold AQ at this⊢;rw[Q.W,Q.H];exact this,hE.2.1,by rw[Q.W,Q.H];exact w⟩
   obtain⟨x,hx,F⟩:=lo_has (p:=q) (r:=r) (L:=L) zu E hEq (by rw[o];exact b6) (λz=>b9 ((Q.kd X.hp w).1.1 z));have fm:(GU q (CS q r) x).1=[c.c,c.e]:=by
    have qh:=YV hs hE.1 hE.2.1 w (b:=AF p.W p.H c.c c.e) rfl;have R1:min x.a x.b=c.c/\max x.a x.b=AF p.W p.H c.c c.e:=by have fh:¬AF p.W p.H c.c c.e<c.c:=b6;have ju:Al q c.c c.e=AF p.W p.H c.c c.e:=o _ _;rcases F with⟨o1,o2⟩|⟨o1,o2⟩<;>rw[o1,o2,ju]<;>omega
    unfold GU TT RM;rw[R1.1,R1.2,Q.W,Q.H,qh];rfl
   unfold kdAt UN;rw[de _ _ [c.c,c.e] c6 (.inl ⟨x,hx,fm⟩),<-hu,c2q X.hp w,qj]
  unfold XA;have el:q.l.map (kdC (UN q r L))=p.l:=by
   apply List.ext_getElem
   .rw[List.length_map,Q.len]
   .intro i d f;have V:i<q.l.length:=by rw[List.length_map]at d;exact d
    obtain⟨c1,c2,_⟩:=Q.cr i f;have eq1:q.l.getD i d0=q.l[i]:=by rw[List.getD_eq_getElem?_getD,List.getElem?_eq_getElem V];rfl
    have ep1:p.l.getD i d0=p.l[i]:=by rw[List.getD_eq_getElem?_getD,List.getElem?_eq_getElem f];rfl
    rw[eq1,ep1]at c1 c2;rw[List.getElem_map];unfold kdC;rw[c1,c2,one _ (List.getElem_mem f)]
  rw[el,Q.W,Q.H]
end
theorem StG.skok{p:Pt}{r:Mv}{L:List Stk}{P:Int->Mv}{B:Int}(X:StG p r L P B)(b:B<=4000):SkOK p r L:=by have hN:=CF X.hs;have a:=(X.G.ok 0 ⟨Lx _,Dx⟩).1;rw[X.r0]at a;unfold EE at a;exact Yg (X.sk b) a.1 (λs hs=>X.stIn.2.1 s hs)
section
variable{p:Pt}{r:Mv}{L:List Stk}{B:Int}
theorem up_at(X:StG p r L (AL p r) B)(a:B<=4000){i:Int}(hi:AQ p i):(CS p r).getD i.toNat FY.d=decide ((AL p r i).t<4):=by
 have S:=X.skok a;have hN:=CF X.hs;have b:i.toNat<(BC p r).length:=by rw[S.P.pl];unfold AQ at hi;omega
 have c:=(X.vm a hi).1;have e:(BC p r)[i.toNat]=AL p r i:=by unfold AL;rw[J5,J6 b];rfl
 unfold CS;rw[J5,Jz,J6 b];show Ol ((BC p r)[i.toNat])=_;rw[e];unfold Ol;rw[c.2];by_cases h:(AL p r i).t<4
 .rw[Jr h,Jq (by omega:¬4<=(AL p r i).t)];simp
 .rw[Jq h,Jr (by omega:4<=(AL p r i).t)];simp
end
end Go.Proofs.YtaihldljnlgnoaaGreatDoor.V
