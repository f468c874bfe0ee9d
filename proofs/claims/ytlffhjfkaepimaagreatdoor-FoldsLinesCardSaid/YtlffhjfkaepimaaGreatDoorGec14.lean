/-
  Parts of the proof: D24 D25 D26 T2 L23. Conditions: none.
-/
import Derived.Test.YtlffhjfkaepimaaGreatDoorGec5
import Derived.Test.YtlffhjfkaepimaaGreatDoorGec16
import Derived.Test.YtlffhjfkaepimaaGreatDoorGec9
import Derived.Test.YtlffhjfkaepimaaGreatDoorGec11
set_option maxRecDepth 100000
set_option maxHeartbeats 40000000
namespace Go.Proofs.YtlffhjfkaepimaaGreatDoor.V
open Go
section
variable{α:Type}{key:α->List Int}
abbrev QS(key:α->List Int)(l:List α):Prop:=l.Pairwise λa b=>BA (key a) (key b)<0
theorem c1h:∀(l m:List α),QS key l->QS key m->(∀x,x∈l↔x∈m)->l=m
 | [],[],_,_,_=>rfl
 | [],y::m,_,_,h=>absurd ((h y).2 E2) E2
 |x::l,[],_,_,h=>absurd ((h x).1 E2) E2
 |x::l,y::m,c,d,h=>by
  rw[QS,Ku]at c d;have e:x=y:=by
   rcases Jv.1 ((h x).1 E2)with e|e
   .exact e
   .rcases Jv.1 ((h y).2 E2)with f|f
    .exact f.symm
    .have:=Um _ _ _ (d.1 x e) (c.1 y f);rw[UR]at this;omega
  subst e;have g:∀{l:List α},(∀a∈l,BA (key x) (key a)<0)->x∉l:=λi hx=>by have:=i x hx;rw[UR]at this;omega
  rw[c1h l m c.2 d.2 λz=>⟨λb=>by
   rcases Jv.1 ((h z).1 (Kd _ b))with e|e
   .subst e;exact absurd b (g c.1)
   .exact e,λb=>by
   rcases Jv.1 ((h z).2 (Kd _ b))with e|e
   .subst e;exact absurd b (g d.1)
   .exact e⟩]
theorem c9p{l:List α}(d:(l.map key).Nodup):QS key (FD key l):=by have c:((FD key l).map key).Nodup:=(((RZ key l).map key).nodup_iff).2 d;rw[List.Nodup,L2]at c;refine((b0g key l).and c).imp λ{a b} h=> ?_;have h3:BA (key a) (key b)≠0:=λe=>h.2 (Pu _ _ e);have:=h.1;omega
theorem pw_of{d:α}{l:List α}(h:∀i j,i<j->j<l.length->BA (key (l.getD i d)) (key (l.getD j d))<0):QS key l:=by rw[QS,Kx];intro i j b a c;have:=h i j c a;rw[Jg,Jg,Jh b,Jh a]at this;exact this
end
theorem cnd3{a b c:Prop}[Decidable a][Decidable b][Decidable c]:(bif decide a||(decide b||decide c)then(1:Int)else 0)=if a\/b\/c then 1 else 0:=by by_cases d:a<;>by_cases e:b<;>by_cases f:c<;>simp[d,e,f]
theorem f8q{K C:Int}{c:Cl}(b:AQ K C=0)(a:vC c):NH K C c.x c.y c.q=0/\RL K C c.x c.y c.q=CR K C c:=by
 have e:=Qb b;obtain⟨X,Y,Q⟩:=c;unfold vC at a;simp only at a⊢;have f:BG X Y Q=0:=by unfold BG;rw[if_pos Dz]
 have g:NH K C X Y Q=0:=by unfold NH;rw[if_pos ⟨f,b⟩]
 refine⟨g,?_⟩;have d:∀x y:Int,-9000<=x/\x<=9000-> -9000<=y/\y<=9000->decide (0<QC K C x y)=decide (2*C<NE K x y):=λx y hx hy=>by
  unfold QC;rw[Ji ⟨b,by unfold KJ;rw[if_pos Dz]⟩];split
  .simp;omega
  .split<;>simp<;>omega
 have ho:(0<=o1 Q/\o1 Q<=2)/\(0<=o2 Q/\o2 Q<=2)/\0<=o3 Q/\o3 Q<=2:=by rcases ET a.2.2 with rfl|rfl|rfl|rfl<;>decide
 unfold RL;rw[Ji g];unfold Rn TT;simp only[f,keep,L1];rw[d _ _ Dz Dz,d _ _ Dz Dz,d _ _ Dz Dz,cnd3];rcases c03 ⟨e.1,e.2.1⟩with rfl|rfl|rfl|rfl<;>rcases ET a.2.2 with rfl|rfl|rfl|rfl<;>(simp[NE,CR,UH,IE,II,tb,o1,o2,o3]<;>split<;>split<;>omega)
theorem b6e{W H:Int}(hs:AV W H=0){u:Int×Int}:u∈AY W H↔((0<=u.1/\u.1<4*W*H)/\(0<=u.2/\u.2<3)/\AR W H u.1 u.2=0)/\u.1<AE W H u.1 u.2:=by
 have hN:=CG hs;constructor
 .intro h;have a:=WJ hs h;refine⟨⟨Dz,a.2.1,a.2.2.1⟩,?_⟩;unfold AY Ll at h;simp only[Jx,Ki,Kk]at h;obtain⟨m,⟨_,b⟩,rfl⟩:=h;unfold Ol at b;simp only[J3]at b;exact b.2
 .rintro⟨⟨a,f,c⟩,d⟩;obtain⟨i,e⟩:=u;simp only at a f c d;obtain⟨k1,k2⟩:=@d9c W H i.toNat e.toNat Dz;have g:((i.toNat:Nat):Int)=i:=Dz;have j:((e.toNat:Nat):Int)=e:=Dz;rw[g,j]at k1 k2;unfold AY Ll;refine Jx.2 ⟨3*i.toNat+e.toNat,Ki.2 ⟨Kk.2 ?_,?_⟩,k2⟩
  .unfold CM;rw[Ji hs];omega
  .rw[k1];simp[c,d]
theorem StG.skok{p:Pt}{r:Mv}{L:List Stk}{P:Int->Mv}{B:Int}(X:StG p r L P B)(b:B<=4000):SkOK p r L:=by have hN:=CG X.hs;have a:=(X.G.ok 0 ⟨Ms _,Dz⟩).1;rw[X.r0]at a;unfold GE at a;exact Xa (X.sk b) a.1 (λs hs=>X.stIn.2.1 s hs)
section
variable{p:Pt}{r:Mv}{L:List Stk}{B K C sd:Int}
theorem d4t(X:StG p r L (AL p r) B)(a:B<=4000)(c:AQ K C=0){i:Int}(hi:AW p i):(DY K C p r).getD i.toNat AC.d=CR K C (AU p (AL p r) i):=by
 have S:=X.skok a;have hN:=CG X.hs;have b:i.toNat<(Al p r).length:=by rw[S.P.il];unfold AW at hi;omega
 have e:=(Rf S hi).1;unfold DA at e;rw[Jg,Jh b]at e;have f:(Al p r)[i.toNat]=AU p (AL p r) i:=e;unfold DY;rw[Jg,K9,Jh b];show csvC K C ((Al p r)[i.toNat])=_;rw[f];exact(f8q c (X.vm a hi).2).2
theorem c0x(X:StG p r L (AL p r) B)(j:B<=4000)(g:AQ K C=0){u:Int×Int}:u∈FZ K C p r↔DI p u.1 u.2/\AZ p u.1 u.2=0/\u.1<BF p u.1 u.2/\JV p (AL p r) K C u.1 u.2:=by
 have hs:=X.hs;have k:=Qb g;have b:DI p u.1 u.2->AZ p u.1 u.2=0->(¬(DY K C p r).getD u.1.toNat AC.d=(DY K C p r).getD (AE p.W p.H u.1 u.2).toNat AC.d↔JV p (AL p r) K C u.1 u.2):=λa c=>by
  obtain⟨l,_⟩:=LD hs a.1 a.2.1 a.2.2;rw[d4t X j g a.1,d4t X j g l,(NS hs X.G a.1 a.2.1 a.2.2 c).2.1];constructor
  .intro h;refine Decidable.byContradiction λf=>h (d3e hs X.G ⟨k.1,k.2.1⟩ a.1 a.2.1 f).symm
  .intro f e;rw[(g0x hs X.G a.1 a.2.1 f).1]at e;have:=@Pc K C (AU p (AL p r) u.1);omega
 unfold FZ GO;rw[Ki,b6e hs];unfold QJ;rw[Ke,N8,L8,Ju];constructor
 .rintro⟨⟨a,i⟩,h,c⟩;exact⟨a,c,i,(b a c).1 h⟩
 .rintro⟨a,c,i,f⟩;exact⟨⟨a,i⟩,(b a c).2 f,c⟩
theorem up_at(X:StG p r L (AL p r) B)(a:B<=4000){i:Int}(hi:AW p i):(FW p r).getD i.toNat EJ.d=decide ((AL p r i).t<4):=by
 have S:=X.skok a;have hN:=CG X.hs;have b:i.toNat<(Bl p r).length:=by rw[S.P.pl];unfold AW at hi;omega
 have c:=(X.vm a hi).1;have e:(Bl p r)[i.toNat]=AL p r i:=by unfold AL;rw[Jg,Jh b];rfl
 unfold FW;rw[Jg,K9,Jh b];show SI ((Bl p r)[i.toNat])=_;rw[e];unfold SI;rw[c.2];by_cases h:(AL p r i).t<4
 .rw[K3 h,K4 (by omega:¬4<=(AL p r i).t)];simp
 .rw[K4 h,K3 (by omega:4<=(AL p r i).t)];simp
theorem doP_eq(X:StG p r L (AL p r) B)(i:B<=4000)(t:∀c∈p.l,AD .u8 c.e)(q:AQ K C=0)(o:Bool):LM K C o p r=GL p (AL p r) K C o:=by
 have hs:=X.hs;have s:=X.hp;have mk:∀u:Int×Int,DI p u.1 u.2->RE (FW p r) o u=⟨u.1,u.2,FdG.nkG (AL p r) o u.1⟩:=λu h=>by unfold RE dkI FdG.nkG;rw[up_at X i h.1]
 have key:∀c,c∈(FZ K C p r).map (RE (FW p r) o)↔c∈LX p (AL p r) K C o:=λc=>by
  rw[c41 s X.G,Jx];constructor
  .rintro⟨u,h,rfl⟩;obtain⟨g,j,k,m⟩:=(c0x X i q).1 h;exact⟨u.1,u.2,g,j,k,m,mk u g⟩
  .rintro⟨a,e,g,j,k,m,rfl⟩;exact⟨(a,e),(c0x X i q).2 ⟨g,j,k,m⟩,mk (a,e) g⟩
 have f:((p.l++LX p (AL p r) K C o).map FV).Nodup:=d5k s t X.G;have n:((KL p (FZ K C p r) (FW p r) o).map FV).Nodup:=by
  have v:(FZ K C p r).Sublist (AY p.W p.H):=by unfold FZ GO;exact List.filter_sublist
  unfold KL;rw[Lv,Mz];rw[Lv,Mz]at f;refine⟨f.1,?_,λa w b x=> ?_⟩
  .rw[M5,List.Nodup,L2];refine(List.Pairwise.sublist v (c5e p.W p.H)).imp λ{a b} y e=>y ?_;simp only[Function.comp,FV,RE,J9]at e;exact Prod.ext e.1 e.2
  .refine f.2.2 a w b ?_;obtain⟨c,z,rfl⟩:=Jx.1 x;exact Jx.2 ⟨c,(key c).1 z,rfl⟩
 unfold LM GL RI OV;congr 1;refine c1h (key:=FV) _ _ (c9p n) (pw_of (d:=d0) (c56 d02 f)) λc=> ?_;rw[Qn,(b2g _).mem_iff];unfold KL;rw[K6,K6,key]
theorem sq0{t:Int}(h:0<=t/\t<=7):(-1<=(sq t 0 0).1/\(sq t 0 0).1<=0)/\ -1<=(sq t 0 0).2/\(sq t 0 0).2<=0:=by rcases MR h with rfl|rfl|rfl|rfl|rfl|rfl|rfl|rfl<;>simp[sq]
theorem doR_eq(X:StG p r L (AL p r) B)(hB:B<=1300)(g:AQ K C=0)(hC: -(2*B+1)<=C/\C<=2*B+1):JE K C sd p r=FP p (AL p r) K C sd 0/\Vd K C sd p r=0:=by
 have hN:=CG X.hs;have a:AW p 0:=⟨Ms _,Dz⟩
 have e:(DY K C p r).getD 0 AC.d=CR K C (AU p (AL p r) 0):=d4t X Dz g a;have b:=Qb g;obtain⟨i,j⟩:=g13 (K:=K) (C:=C) ⟨b.1,b.2.1⟩ ⟨b.2.2.1,b.2.2.2⟩;have f:=(X.vm Dz a).1;have c:=X.bd 0 a;unfold AU at c;rw[X.r0]at f c;have k:=QT f;have s0:=sq0 k;have l:AK p.W p.H 0=⟨0,0,0⟩:=by rw[KZ X.hs (Ms _) a.2];simp
 rw[l]at c;simp only[BR]at c;have hx: -16384<=(DW r (BJ K C)).x/\(DW r (BJ K C)).x<=16384:=by rcases WA K C with h|h|h|h<;>(rw[h];simp only[DW,AM];simp;omega)
 have m: -16384<=(DW r (BJ K C)).y/\(DW r (BJ K C)).y<=16384:=by rcases WA K C with h|h|h|h<;>(rw[h];simp only[DW,AM];simp;omega)
 obtain⟨n,o⟩:=f92 f j hx m;unfold JE Vd FP;rw[e,X.r0,i];by_cases h:CR K C (AU p (AL p r) 0)=sd
 .rw[Ji h,Ji h,Ji h,o];exact⟨rfl,n⟩
 .rw[Jj h,Jj h,Jj h];exact C7
end
theorem f7z(L:List Stk):∀i,i<=L.length->(oF L i).map (·.1)=AX true [] (L.take i)
 |0,_=>rfl
 |i+1,h=>by
  have s:=f7z L i Dz;have b:=(UQ (L:=L) i Dz).2.1;rw[Vc Dz,b5a Dz,<-s];generalize L.getD i AA.d=x;generalize oF L i=O at b;have g:∀j,((O.map (·.1)).getD j AA.d)=(O.getD j dO).1:=λj=>by rw[Jg,Jg,K9];cases O[j]?<;>rfl
  have gk:∀j,j<O.length->(kO O).getD j []=FQ (O.getD j dO).1.c:=λj a=>by unfold kO;rw[Jg,Jg,K9,Jh a];rfl
  cases hf:GI O (FQ x.c)with
  |some k=>
   obtain⟨m,n⟩:=UW hf;rw[Sa hf,List.map_set];have o:((O.map (·.1)).getD k AA.d).c=x.c:=by rw[g];exact c0q n
   have a:∀j,j<k->((O.map (·.1)).getD j AA.d).c≠x.c:=λj a e=>by
    rw[g]at e;rw[List.Nodup,Kx]at b;have hl:(kO O).length=O.length:=by unfold kO;rw[List.length_map]
    have:=b j k Dz Dz a;have q:=gk j Dz;have r:=gk k m;rw[Jg,Jh Dz]at q r;refine this ?_;show (kO O)[j]=(kO O)[k];have f:(kO O)[j]=FQ (O.getD j dO).1.c:=q;have l:(kO O)[k]=FQ (O.getD k dO).1.c:=r;rw[f,l,e,n]
   rw[b4p _ k (by rw[Kh];exact m) a o,o,g];rfl
  |none=>
   rw[Sh hf,Lv];refine(b18 _ λj a e=> ?_).symm;rw[Kh]at a;rw[g]at e;refine c9a hf ?_;rw[<-e];unfold kO;refine Jx.2 ⟨O.getD j dO,?_,rfl⟩;rw[Jg,Jh a];exact Kj a
theorem c79{A:List Stk}(h:CV A):∀i,i<=A.length->AX true [] (A.take i)=A.take i
 |0,_=>rfl
 |i+1,hi=>by rw[b5a Dz,c79 h i Dz,GF (d:=AA.d) (by omega:i<A.length)];refine b18 _ λj a e=>f4r h (by omega:i<A.length) ?_;rw[<-e];exact Jx.2 ⟨_,DP a,rfl⟩
theorem f6c{A B:List Stk}(a:CV A):(oF (A++B) (A++B).length).map (·.1)=AX true A B:=by
 have e:=c79 a A.length (Jp _);rw[Kw]at e;rw[f7z _ _ (Jp _),Kw];have b:AX true [] (A++B)=AX true (AX true [] A) B:=by unfold AX;rw[List.foldl_append]
 rw[b,e]
theorem f9m{A B:List Stk}(g:CV A)(i:CV B)(m:QS OP A)(n:QS OP B)(nA:∀s∈A,s.l≠[])(o:∀s∈B,s.l≠[])(h:∀c,AP A c=AP B c):A=B:=by
 have one:∀{A B:List Stk},CV A->CV B->(∀s∈A,s.l≠[])->(∀c,AP A c=AP B c)->∀s,s∈A->s∈B:=λ{A B} g i nA h s hs=>by
  have e:=PU g hs;rcases Qp B s.c with⟨t,k,f⟩|f
  .have j:=PU i k;rw[f,<-h,e]at j;have:s=t:=by
    obtain⟨a,b⟩:=s;obtain⟨c,d⟩:=t;simp only at f j;rw[f,j]
   rw[this];exact k
  .rw[h]at e;exact absurd (e.symm.trans f) (nA s hs)
 exact c1h A B m n λs=>⟨one g i nA h s,one i g o (λc=>(h c).symm) s⟩
theorem g35{M:List Stk}(h:CV M):(M.map OP).Nodup:=by unfold CV at h;rw[List.Nodup,L2]at h⊢;exact h.imp λb e=>b (b9y (a:=_) e)
theorem d19{L:List Stk}{K C sd:Int}(h:CV L):CV (Dl K C sd L):=by unfold CV Dl;exact N4 (List.filter_sublist.map _) h
theorem d1a{L:List Stk}{K C sd:Int}(h:CV L)(hq:∀s∈L,DF s.c):CV (CY K C sd L):=by unfold CV CY;rw[M5];have d:((L.filter λs=>decide (CR K C s.c=sd)).map (·.c)).Nodup:=N4 (List.filter_sublist.map _) h;rw[List.Nodup,L2]at d⊢;refine List.Pairwise.imp_of_mem (λ{a b} ha hb w5 e=> ?_) d;exact D7
section
variable{p:Pt}{r:Mv}{L:List Stk}{B K C sd:Int}
theorem doL_eq(X:StG p r L (AL p r) B)(hB:B<=1300)(hu:∀c∈p.l,AD .u8 c.e)(J:AQ K C=0)(ho:Qu p (AL p r) K C)(z:sd=0\/sd=1)(o:Bool):GP K C sd o L=KD o K C sd L/\Rl K C sd L=0:=by
 have hs:=X.hs;have S:=X.skok Dz;have n:=Qb J;obtain⟨N,O⟩:=g13 (K:=K) (C:=C) ⟨n.1,n.2.1⟩ ⟨n.2.2.1,n.2.2.2⟩;have Y:=(X.fold hu ho z o).2;have fm:∀s∈L,PV K C s=CR K C s.c:=λs h=>(f8q J (S.vc s h)).2;have A:∀d,BE K C d L=L.filter λs=>decide (CR K C s.c=d):=λd=>by unfold BE;exact List.filter_congr λs h=>by rw[fm s h]
 have a:BE K C (1-sd) L=Dl K C sd L:=by rw[A];unfold Dl;refine List.filter_congr λs _=> ?_;have:=@Pc K C s.c;rw[Lw,Ju,N8,L8];omega
 have f:∀s∈L,CR K C s.c=sd->EA (CD K C) s.c=BR (BJ K C) s.c/\vC (BR (BJ K C) s.c):=λs h hd=>by have hc:=S.vc s h;have hq:=X.cQ h;obtain⟨v,_,P,Q⟩:=X.one h;have hb:=Y.bd v P;have e0:=Uu (p':=GL p (AL p r) K C o) (K:=K) (C:=C) (sd:=sd) hs X.G P rfl rfl;rw[e0,Ji (show CR K C (AU p (AL p r) v)=sd by rw[Q];exact hd),Q]at hb;have ku:=Xq (m:=BJ K C) KB hq;refine⟨by rw[N];exact YU O (XP hc),Dz,Dz,ku⟩
 have R:∀t∈(BE K C sd L).map DG,∃s∈L,CR K C s.c=sd/\t=DG s:=λt h=>by obtain⟨s,b,rfl⟩:=Jx.1 h;rw[A]at b;obtain⟨g,h3⟩:=Ki.1 b;exact⟨s,g,Fq,rfl⟩
 have E:∀{c:Cl},vC c->BG c.x c.y c.q=0:=λ{c} h=>by unfold vC at h;unfold BG;rw[Ji Dz]
 have T:Rl K C sd L=0:=by
  unfold Rl GZ;have U:Do (CD K C).t (CD K C).x (CD K C).y=0:=by rw[N];exact O.2
  have i:((BE K C sd L).map DG).any OM=false:=by rw[K2];intro t j;obtain⟨s,b,_,rfl⟩:=R t j;have e:OM (DG s)= !decide (BG s.c.x s.c.y s.c.q=0):=rfl;rw[e,E (S.vc s b)];simp
  rw[Ji ⟨U,i⟩,Ji];rw[Jr];intro t j;obtain⟨s,b,g,rfl⟩:=R t j;obtain⟨f1,f2⟩:=f s b g;have e:cmEs (CD K C) (DG s)=HM (CD K C).t (CD K C).x (CD K C).y s.c.x s.c.y s.c.q:=rfl;have e2:BG (EA (CD K C) s.c).x (EA (CD K C) s.c).y (EA (CD K C) s.c).q=0:=by rw[f1];exact E f2
  rw[Ju,e];unfold HM;rw[Ji ⟨U,E (S.vc s b)⟩];exact Ji e2
 have F:(ID K C sd L).Perm (CY K C sd L):=by
  have e:((BE K C sd L).map DG).map (MA (CD K C))=CY K C sd L:=by rw[A,M5];unfold CY;refine List.map_congr_left λs h=> ?_;obtain⟨g,h3⟩:=Ki.1 h;have f1:=(f s g Fq).1;show (⟨EA (CD K C) s.c,s.l.reverse⟩:Stk)=⟨BR (BJ K C) s.c,s.l.reverse⟩;rw[f1]
  unfold ID JY;rw[Ji (show GZ (CD K C) ((BE K C sd L).map DG)=0 from T),e];exact(b6c _).3
 refine⟨?_,T⟩;have u:=d19 (K:=K) (C:=C) (sd:=sd) X.cells;have V:=d1a (K:=K) (C:=C) (sd:=sd) X.cells (λs h=>X.cQ h);have w:CV (ID K C sd L):=(Ty V F.symm ⟨0,0,0⟩).2;have W:∀c,AP (ID K C sd L) c=AP (CY K C sd L) c:=λc=>(Ty w F c).1;have eA:∀s∈CY K C sd L,s.l≠[]:=λs h=>by obtain⟨t,j,rfl⟩:=Jx.1 h;have:=X.ne t (Ki.1 j).1;simpa using this
 have Z:∀s∈Dl K C sd L,s.l≠[]:=λs h=>X.ne s (Ki.1 h).1;have eV:∀s∈ID K C sd L,s.l≠[]:=λs h=>eA s (F.mem_iff.1 h);have nM:=Xu (over:=o) (CY K C sd L) _ u;have aF:∀c,AP (KD o K C sd L) c=NJ o (AP (Dl K C sd L) c) (AP (CY K C sd L) c):=λc=>by rw[<-XQ _ _ c V];exact((Ty nM (c2h _).symm c).1).symm
 have k:∀M:List Stk,CV M->(∀s∈M,s.l≠[])->(∀c,AP M c=AP (KD o K C sd L) c)->FD OP M=KD o K C sd L:=λM H n2 n3=>by have I:=RZ OP M;refine f9m (Ty H I.symm ⟨0,0,0⟩).2 Y.cells (c9p (g35 H)) (pw_of (key:=OP) Y.lt) (λs h=>n2 s (I.mem_iff.1 h)) Y.ne λc=> ?_;rw[<-(Ty H I.symm c).1];exact n3 c
 unfold GP;rw[a];cases o with
 |true=>
  rw[Ji rfl];unfold Fl;rw[f6c u];refine k _ (Xu _ _ u) (c0w _ _ eV Z) λc=> ?_;rw[XQ _ _ c w,aF,W]
 |false=>
  rw[Jj E2];unfold Fl;rw[f6c w];refine k _ (Xu _ _ w) (c0w _ _ Z eV) λc=> ?_;rw[XQ _ _ c u,aF,W];rfl
theorem d4b(X:StG p r L (AL p r) B)(a:B<=4000)(c:AQ K C=0):IG K C p r=0:=by have S:=X.skok a;refine d6k (X.places a).1 λj b=> ?_;rw[S.P.il]at b;exact(f8q c (S.P.im j b).2).1
theorem f09(X:StG p r L (AL p r) B)(d:B<=4000)(f:AQ K C=0):(FZ K C p r).length=0↔¬Qu p (AL p r) K C:=by
 rw[M1];constructor
 .intro h i;obtain⟨q,j,e⟩:=c51.1 ((f5h (y:=(K,C)) X.hp X.G).2 i);obtain⟨a,k,b,c,g,rfl⟩:=(TX X.hp X.G).1 j;have:(a,k)∈FZ K C p r:=(c0x X d f).2 ⟨b,c,g,e⟩;rw[h]at this;cases this
 .intro h;cases hd:FZ K C p r with
  |nil=>rfl
  |cons u l=>
   exfalso;obtain⟨b,c,g,m⟩:=(c0x X d f).1 (show u∈FZ K C p r by rw[hd];simp);exact h ⟨u.1,u.2,b,c,m⟩
theorem do_fd(X:StG p r L (AL p r) B)(i:B<=1300)(f:∀c∈p.l,AD .u8 c.e)(d:Qu p (AL p r) K C)(b:sd=0\/sd=1)(o:Bool):CQ K C sd o p r L=0/\LM K C o p r=GL p (AL p r) K C o/\JE K C sd p r=FP p (AL p r) K C sd 0/\GP K C sd o L=KD o K C sd L:=by
 obtain⟨hK,n⟩:=on_bd X d;have a:AQ K C=0:=by unfold AQ;rw[if_pos Dz]
 have Y:=(X.fold f d b o).2;have q:=Y.valid Dz;have g:=X.valid Dz;have s:GA K C sd=0:=by unfold GA;rw[if_pos ⟨a,Dz⟩]
 have j:=doP_eq X Dz f a o;obtain⟨k,t⟩:=doR_eq (sd:=sd) X i a n;obtain⟨m,u⟩:=doL_eq X i f a d b o;refine⟨?_,j,k,m⟩;unfold CQ;rw[Jj (λh=>h g),Jj (λh=>h s),Jj (λh=>h (d4b X Dz a)),Jj (λh=>(f09 X Dz a).1 h d),Jj (λh=>h u),Jj (λh=>h t),j,k,m,Jj (λh=>h q)]
theorem g1k(X:StG p r L (AL p r) B)(hB:B<=1300)(a:GA K C sd=0)(c:¬Qu p (AL p r) K C)(o:Bool):CQ K C sd o p r L=7:=by
 have b:AQ K C=0:=by
  unfold GA at a;split at a
  .rename_i h;exact h.1
  .cases a
 unfold CQ;rw[Jj (λh=>h (X.valid Dz)),Jj (λh=>h a),Jj (λh=>h (d4b X Dz b)),Ji ((f09 X Dz b).2 c)]
theorem do_arg(X:StG p r L (AL p r) B)(hB:B<=1300)(a:¬GA K C sd=0)(o:Bool):CQ K C sd o p r L=1:=by
 unfold CQ;rw[Jj (λh=>h (X.valid Dz)),Ji a];unfold GA at a⊢;split
 .rename_i h;rw[Ji h]at a;exact absurd rfl a
 .rfl
end
theorem f28{x y:Int×Int}:JP x y=true↔BA (Jl x) (Jl y)<0:=by
 rw[b3i];obtain⟨a,b⟩:=x;obtain⟨c,d⟩:=y;simp only[Jl,BA,CC];by_cases f:a=c
 .subst f;by_cases e:b=d
  .subst e;simp
  .by_cases g:b<d<;>simp[e,g]
   split<;>omega
 .by_cases e:a<c<;>simp[f,e]
  split<;>omega
section
variable{β:Type} [DecidableEq β] {key:β->List Int}
abbrev leP(key:β->List Int)(l:List β):Prop:=l.Pairwise λa b=>BA (key a) (key b)<=0
theorem b6t(hi:∀x y,key x=key y->x=y):∀(q:β) (l:List β),leP key (q::l)->QS key (q::ML q l)/\∀x,x∈q::ML q l↔x∈q::l
 |q,[],_=>by simp[ML]
 |q,y::l,h=>by
  have hy:=(Ku.1 h).1 y E2;have c:=(Ku.1 h).2;rw[ML];by_cases e:y=q
  .subst e;rw[Ji rfl];obtain⟨a,b⟩:=b6t hi y l c;refine⟨a,λx=> ?_⟩;rw[b];simp
  .rw[Jj e];obtain⟨a,b⟩:=b6t hi y l c;have d:BA (key q) (key y)<0:=by
    have:BA (key q) (key y)≠0:=λz=>e (hi _ _ (Pu _ _ z)).symm;omega
   refine⟨Ku.2 ⟨λx hx=> ?_,a⟩,λx=> ?_⟩
   .rcases Jv.1 hx with rfl|hx
    .exact d
    .exact Um _ _ _ d ((Ku.1 a).1 x hx)
   .rw[Jv,b];simp
theorem f2s(hi:∀x y,key x=key y->x=y){l:List β}(h:leP key l):QS key (GX l)/\∀x,x∈GX l↔x∈l:=by
 cases l with
 |nil=>exact⟨.nil,λx=>Iff.rfl⟩
 |cons y l=>exact b6t hi y l h
end
theorem g41{c:Cl}{e:Int}(h:FU c.x c.y c.q e=0):IC c.x c.y c.q e=(AO c e).x/\IH c.x c.y c.q e=(AO c e).y/\HJ c.x c.y c.q e=(AO c e).q:=by unfold IC IH HJ AO;rw[Ji h,Ji h,Ji h];exact⟨rfl,rfl,rfl⟩
theorem tc_bey{c:Cl}{e:Int}(b:vC c)(l:vC (AO c e))(d:∀k:Int,0<=k->k<3->FU c.x c.y c.q k=0)(f:0<=e/\e<3):Qt c.x c.y c.q (AO c e).x (AO c e).y (AO c e).q=e:=by
 have g:∀{c:Cl},vC c->BG c.x c.y c.q=0:=λ{c} h=>by unfold vC at h;unfold BG;rw[Ji Dz]
 have m:0<=c.q/\c.q<=3:=b.2.2;have t:∀k:Int,0<=k/\k<3->IU c.x c.y c.q (AO c e).x (AO c e).y (AO c e).q k=decide (k=e):=λk a=>by
  obtain⟨n,o,r⟩:=g41 (d k a.1 a.2);unfold IU;rw[n,o,r,d k a.1 a.2];by_cases h:k=e
  .subst h;simp
  .rw[K4 h];have:AO c k≠AO c e:=λz=>h (b77 m a f z);by_cases g1:(AO c k).x=(AO c e).x
   .by_cases i:(AO c k).y=(AO c e).y
    .by_cases j:(AO c k).q=(AO c e).q
     .exact absurd (Cl.ext' g1 i j) this
     .simp[j]
    .simp[i]
   .simp[g1]
 have s:NY c.x c.y c.q (AO c e).x (AO c e).y (AO c e).q [0,1,2]=e:=by simp only[NY];rw[t 0 Dz,t 1 Dz,t 2 Dz];rcases HI f with rfl|rfl|rfl<;>rfl
 have u:Tg c.x c.y c.q (AO c e).x (AO c e).y (AO c e).q=true:=by unfold Tg;rw[g b,g l];rfl
 unfold Qt;rw[u,s];show (if e=3 then 0 else e)=e;rw[Jj Dz]
theorem ln_eq{p:Pt}{r:Mv}{L:List Stk}{B:Int}(X:StG p r L (AL p r) B)(hB:B<=1300):EQ p r=NA (p,r,L):=by
 have hs:=X.hs;have S:=X.skok Dz;have hN:=CG hs;have at_:∀{i:Int},AW p i->OC (Al p r) i=AU p (AL p r) i:=λ{i} l=>by have:=(Rf S l).1;unfold DA at this;exact this
 have val:∀u:Int×Int,DI p u.1 u.2->AZ p u.1 u.2=0->Sw p (Al p r) u=0/\lnV p (Al p r) u=HC (DN (AU p (AL p r) u.1)) (DN (CN p (AL p r) u.1 u.2)):=λu b I=>by
  obtain⟨s,_⟩:=LD hs b.1 b.2.1 b.2.2;have v:=(NS hs X.G b.1 b.2.1 b.2.2 I).2.1;have m:=NG hs X.G b.1;have g:=Sd (t:=(AL p r u.1).t) b.2.1;have n:=c3i hs X.G b.1 b.2.1;have w:=(X.vm Dz b.1).2;have z:=(X.vm Dz s).2;have J:=X.bd u.1 b.1;obtain⟨i,k,l,fe,A,K⟩:=Wn S b.1.1 b.1.2;have C:=S.nb _ (DP (d:=AA.d) l);have M:AU p (AL p r) u.1=(L.getD i AA.d).c:=(at_ b.1).symm.trans K;rw[<-M]at C;rw[v,n]at z;have N:=tc_bey w z C g;have E:YG p (Al p r) u=OY (AL p r u.1).t u.2:=by unfold YG;rw[at_ b.1,at_ s,v,n];exact N
  have o:=d03 m g;have hK:=ci_K m g;have hC:=ci_bd m g J;have O:BG (AU p (AL p r) u.1).x (AU p (AL p r) u.1).y (AU p (AL p r) u.1).q=0:=by unfold vC at w;unfold BG;rw[Ji Dz]
  have F:Sw p (Al p r) u=0:=by unfold Sw;rw[E,at_ b.1];unfold QE;rw[Ji ⟨O,Dz⟩,Ji];unfold AQ;rw[Ji Dz]
  refine⟨F,?_⟩;unfold lnV;rw[F,E,at_ b.1,n,o];rfl
 obtain⟨c1,P⟩:=f2s (key:=Jl) (λ_ _=>c26) (b0g Jl (JB p (Al p r) (AY p.W p.H)));refine c1h (key:=Jl) _ _ c1 ((g1f _).imp λh=>f28.1 h) λx=> ?_;show x∈GX _↔x∈NA (p,r,L);rw[P,Qn];unfold JB NA;rw[Jx,c51];constructor
 .rintro⟨u,A,rfl⟩;obtain⟨j,f⟩:=Ki.1 A;obtain⟨b,Q⟩:=(b6e hs).1 j;unfold QF at f;rw[Ke,Ju,Ju]at f;exact⟨_,(TX X.hp X.G).2 ⟨u.1,u.2,b,f.1,Q,rfl⟩,(val u b f.1).2.symm⟩
 .rintro⟨q,R,rfl⟩;obtain⟨a,e,j,f,T,rfl⟩:=(TX X.hp X.G).1 R;obtain⟨g1,U⟩:=val (a,e) j f;refine⟨(a,e),Ki.2 ⟨(b6e hs).2 ⟨j,T⟩,?_⟩,U⟩;unfold QF;rw[g1];simp only;rw[f];rfl
def RN(a r:SV):AH
 | [x]=>some (x=a,r)
 |_=>none
def kTwo(a b r:SV):AH
 | [x,y]=>some (x=a/\y=b,r)
 |_=>none
theorem d05{f:FuncId}{k:AH}{a r:SV}(h:PS f k)(e:∃q,k [a]=some (q,r)/\q):PS f (RN a r):=Wd h λargs pre s b c=>by
 unfold RN at b;split at b
 .cases b;subst c;exact e
 .cases b
theorem two_of{f:FuncId}{k:AH}{a b r:SV}(h:PS f k)(e:∃q,k [a,b]=some (q,r)/\q):PS f (kTwo a b r):=Wd h λargs pre s c d=>by
 unfold kTwo at c;split at c
 .cases c;obtain⟨rfl,rfl⟩:=d;exact e
 .cases c
def Yv(xs:List SV)(r:SV):AH:=λa=>some (a=xs,r)
theorem top_of{F:Fam}{f:FuncId}(hf:∃fn,Tryz.prog.funcs[f]?=some fn/\(fn.name== "runtime.NumGoroutine")=false/\fn.body.isNone=false)(h:∀i,F.pre i->PS f (Yv (F.args i) (.bool true))):PS f (Pv F):=⟨hf,λA w args vals pre s hA hg hD hk hp=>by
 unfold Pv at hk;split at hk
 .rename_i X9;obtain⟨i,hi,rfl⟩:=X9;cases hk;exact(h i hi).2 A w _ vals _ _ hA hg hD rfl rfl
 .cases hk⟩
def F1(xs:List SV)(r:SV):Fam:=⟨Unit,λ_=>xs,λ_=>True,λ_=>r⟩
theorem law1{xs:List SV}{r:SV}(h:BK xs xs):Qv (F1 xs r) (Yv xs r):=λzs p s a b=>by unfold Yv at a;cases a;subst b;exact⟨(),h,Jm,rfl⟩
theorem asS_sx(w h:Int)(l:List (Int×Int×Int))(hx:Ob w h l):∃q,asS (.agg (KA w h l))=some (q,w,h,l)/\q:=by
 have a:FH.lst l.length (FH.row l)=l:=RT.lst_row _ _;have b:∃q,asS (.agg (KA w h l))=some (q,w,h,FH.lst l.length (FH.row l))/\q:=⟨_,rfl,FH.isL_row l,by rw[a];exact hx⟩
 rw[a]at b;exact b
theorem oSOf{w h:Int}{l:List (Int×Int×Int)}{p:Pt}{r:Mv}{L:List Stk}(hx:Ob w h l)(e:Pn w h l=(p,r,L)):PS 5 (RN (.agg (KA w h l)) (.agg (Co p r L))):=d05 pSOf (by obtain⟨q,a,b⟩:=asS_sx w h l hx;refine⟨q,?_,b⟩;unfold Ym;simp only[a,Ks,e];rfl)
section
variable{p:Pt}{r:Mv}{L:List Stk}
structure StS (p:Pt) (r:Mv) (L:List Stk):Prop where
 X:SOK (p,r,L) 5
 pr:prOK p r
 sn:DV L
 g:StG p r L (AL p r) 971
 ck:CL p r L=0
 bo:CH p r=0
theorem sts_of{w h:Int}{l:List (Int×Int×Int)}(e:Pn w h l=(p,r,L)):StS p r L:=by have X:=f5z w h l;rw[e]at X;have a:Qc 5=971:=E4;have g:=X.g;rw[a]at g;exact⟨X,X.prOK (Jp _),g.stIn,g,X.chk (Jp _),(g.places Dz).1⟩
theorem oLines(S:StS p r L){z:Int}(a:z=0):PS 8 (RN (.agg (Co p r L)) (.tup [.sl 2 (EQ p r).length (BX.row (EQ p r)) (some (EQ p r).length),.int .i64 z])):=d05 d0b (by subst a;obtain⟨q,b,c⟩:=Vo p r L;refine⟨q,?_,c S.pr S.sn⟩;unfold VW;simp only[b,Ks];unfold c9n zL;rw[S.ck,Ji rfl])
theorem oFolds(S:StS p r L){z:Int}(a:z=0):PS 9 (RN (.agg (Co p r L)) (.tup [.sl 4 (GG (EQ p r)).length (NI.row (GG (EQ p r))) (some (GG (EQ p r)).length),.int .i64 z])):=d05 f5j (by subst a;obtain⟨q,b,c⟩:=Vo p r L;refine⟨q,?_,c S.pr S.sn⟩;unfold ZA;simp only[b,Ks];unfold d93 zL;rw[S.ck,Ji rfl])
theorem oLn28(S:StS p r L):PS 11 (RN (.agg (Co p r L)) (.sl 2 (EQ p r).length (BX.row (EQ p r)) none)):=d05 pLn28 (by obtain⟨q,a,b⟩:=Vo p r L;refine⟨q/\CH p r=0,?_,b S.pr S.sn,S.bo⟩;unfold d5b;simp only[a,Ks];rw[show EQ p r=FB (BL p r)from ln_eq S.g Dz];rfl)
theorem oDo(S:StS p r L)(K C sd:Int)(o:Bool)(a:0<=sd):PS 7 (kTwo (.agg (Co p r L)) (.agg [.int .u8 K,.int .i64 C,.int .u8 sd,.bool o]) (SG K C sd o p r L)):=two_of pDo (by obtain⟨q,b,c⟩:=Vo p r L;refine⟨q/\0<=sd,?_,c S.pr S.sn,a⟩;unfold Ul;simp only[b,Ks])
end
abbrev FLi:=(Int×Int×List (Int×Int×Int))×(Int×Int×Int×Bool)
def XA(K C sd:Int)(a:Bool):List SV:=[.int .u8 K,.int .i64 C,.int .u8 sd,.bool a]
def FFL:Fam:=⟨FLi,λ((w,h,l),(K,C,a,b))=>[.agg (KA w h l),.agg (XA K C a b)],λ((w,h,l),(K,C,a,_))=>Ob w h l/\AD .u8 K/\AD .i64 C/\AD .u8 a,λ_=>.bool true⟩
theorem c5g(x:Int×Int):(Qs x).length=4:=rfl
theorem Yx:∀(T:List (Int×Int)) (i k:Nat),i<T.length->k<4->(GG T).getD (4*i+k) NI.d=(Qs (T.getD i BX.d)).getD k NI.d
 | [],i,k,h,_=>Ec
 |x::T,0,k,_,a=>by have e:GG (x::T)=Qs x++GG T:=rfl;rw[e,Jg,Jt (by rw[c5g];omega),<-Jg,Nat.mul_zero,L9];rfl
 |x::T,i+1,k,h,a=>by have e:GG (x::T)=Qs x++GG T:=rfl;have b:=Yx T i k E6 a;rw[e,Jg,Jy (by rw[c5g];omega),<-Jg,c5g,show 4*(i+1)+k-4=4*i+k from Dz,b];rfl
def UJ(T:List (Int×Int))(K C:Int)(i:Nat):Bool:=(T.take i).any λx=>decide (x=(K,C))
theorem g34{T:List (Int×Int)}{K C:Int}{i:Nat}(h:i<T.length):UJ T K C (i+1)=(UJ T K C i||(decide ((T.getD i BX.d).1=K)&&decide ((T.getD i BX.d).2=C))):=by unfold UJ;rw[GF (d:=BX.d) h,O2];congr 1;generalize T.getD i BX.d=x;obtain⟨a,b⟩:=x;simp
theorem f5k{T:List (Int×Int)}{K C:Int}:UJ T K C T.length=true↔(K,C)∈T:=by
 unfold UJ;rw[Kw,K1];constructor
 .rintro⟨x,b,a⟩;rw[Ju]at a;rw[<-a];exact b
 .exact λh=>⟨_,h,E2⟩
theorem fd_one{K C sd:Int}(h:¬GA K C sd=0):GA K C sd=1:=by
 unfold GA at h⊢;split
 .rename_i g;rw[Ji g]at h;exact absurd rfl h
 .rfl
def ownFL(w h:Int)(l:List (Int×Int×Int))(K C sd:Int)(a:Bool)(p:Pt)(r:Mv)(L:List Stk):List Blk:=[.cells 24 (KA w h l),.cells 29 (XA K C sd a),.cells 39 (Co p r L)]
def entFL(T:List (Int×Int))(i:Nat)(b:Bool):List Entry:=[⟨12,none,.int .i64 i⟩,⟨11,none,.bool b⟩,⟨9,none,.sl 4 (GG T).length (NI.row (GG T)) (some (GG T).length)⟩,⟨8,none,.sl 2 T.length (BX.row T) none⟩,⟨6,none,.sl 2 T.length (BX.row T) (some T.length)⟩,⟨5,none,.own 2 0⟩,⟨3,none,.own 1 0⟩]
def IFL(w h:Int)(l:List (Int×Int×Int))(K C sd:Int)(a:Bool)(p:Pt)(r:Mv)(L:List Stk)(T:List (Int×Int)):Nat->Option Inv
 |9=>some {β:=Nat,ok:=λi=>i<=T.length,st:=λi=>⟨entFL T i (UJ T K C i),ownFL w h l K C sd a p r L⟩,μ:=λi=>T.length-i,sub:=λi=>some fun
  |15=>some {β:=Nat,ok:=λk=>i<T.length/\k<=4,st:=λk=>⟨⟨13,none,.int .i64 k⟩::entFL T i (UJ T K C (i+1)),ownFL w h l K C sd a p r L⟩,μ:=λk=>4-k}
  |_=>none}
 |_=>none
theorem pFL_at{w v K C sd:Int}{l:List (Int×Int×Int)}{a:Bool}{p:Pt}{r:Mv}{L:List Stk}{z:Int}(M:PS 10 SL)(hx:Ob w v l)(N:AD .u8 K)(O:AD .i64 C)(f:AD .u8 sd)(e:Pn w v l=(p,r,L))(m:z=0):PS 4 (Yv [.agg (KA w v l),.agg (XA K C sd a)] (.bool true)):=by
 have S:=sts_of e;simp only[AD]at N O f;have P:=ln_eq S.g Dz;have n:∀y,y∈EQ p r↔Qu p (AL p r) y.1 y.2:=λy=>by rw[P];exact d5r S.X
 have Q:(EQ p r).length<=10000:=by have:=@f70 p r;have h2:=CG S.g.hs;unfold CM at this;rw[Ji S.g.hs]at this;omega
 have R:=oDo S K C sd a f.1;have F:=oLines S m;have G:=oFolds S m;have H:=oLn28 S;generalize EQ p r=T at n Q F G H;refine con [(10,SL),(5,RN (.agg (KA w v l)) (.agg (Co p r L))),(8,RN (.agg (Co p r L)) (.tup [.sl 2 T.length (BX.row T) (some T.length),.int .i64 z])),(11,RN (.agg (Co p r L)) (.sl 2 T.length (BX.row T) none)),(9,RN (.agg (Co p r L)) (.tup [.sl 4 (GG T).length (NI.row (GG T)) (some (GG T).length),.int .i64 z])),(7,kTwo (.agg (Co p r L)) (.agg [.int .u8 K,.int .i64 C,.int .u8 sd,.bool a]) (SG K C sd a p r L)),(12,TW)] (by simpa using⟨M,oSOf hx e,F,H,G,R,c75⟩) (F1 [.agg (KA w v l),.agg (XA K C sd a)] (.bool true)) (λ_=>IFL w v l K C sd a p r L T) (Yv [.agg (KA w v l),.agg (XA K C sd a)] (.bool true)) (law1 (by simp[KA,XA,BK,SV.le2,SV.le1,BH,SV.le0,HN,Hl])) ?_ Tryz.func4 E1 E1 E1 ?_
 .exact Bz
 .rintro⟨⟩ _;have o:=c5c T;refine X0a _ ?_;(repeat' first|constructor|intro h)<;>refine Lm ?_
  .exact λ_=>F0
  .exfalso;simp[m,o]at h
  .refine⟨(0:Nat),Jw _,?_,?_⟩
   .refine X0a _ ?_;(repeat' first|constructor|intro h)<;>refine Lm ?_
    all_goals first
     |exact A8
     |exact A5
     |skip
   .intro i I;replace I:i<=T.length:=I;refine X0a _ ?_;(repeat' first|constructor|intro h)<;>refine Lm ?_
    all_goals(try simp only[Ir,Is,Ix,Me,J6]at*)
    all_goals(try first
     |omega
     |exact Aw
     |exact λ_=>⟨Dz,Dz⟩
     |exact A6
     |exact⟨rfl,rfl⟩
     |(exfalso;simp at h;done))
    .have b:i<T.length:=Dz;have s:=@g34 T K C i b;refine⟨(0:Nat),⟨b,Jw _⟩,?_,?_⟩
     .refine X0a _ ?_;(repeat' first|constructor|intro h)<;>refine Lm ?_
      all_goals first
       |exact A8
       |exact A5
       |exact s.symm
       |skip
     .intro k J;replace J:i<T.length/\k<=4:=J;have g0:(GG T).getD (4*(i:Int)+((0:Nat):Int)).toNat NI.d=((T.getD i BX.d).1,(T.getD i BX.d).2,0,false):=by
       rw[show (4*(i:Int)+((0:Nat):Int)).toNat=4*i+0 from Dz,Yx T i 0 b E4];rfl
      have g1:(GG T).getD (4*(i:Int)+((1:Nat):Int)).toNat NI.d=((T.getD i BX.d).1,(T.getD i BX.d).2,0,true):=by rw[show (4*(i:Int)+((1:Nat):Int)).toNat=4*i+1 from Dz,Yx T i 1 b E4];rfl
      have U:(GG T).getD (4*(i:Int)+((2:Nat):Int)).toNat NI.d=((T.getD i BX.d).1,(T.getD i BX.d).2,1,false):=by rw[show (4*(i:Int)+((2:Nat):Int)).toNat=4*i+2 from Dz,Yx T i 2 b E4];rfl
      have V:(GG T).getD (4*(i:Int)+((3:Nat):Int)).toNat NI.d=((T.getD i BX.d).1,(T.getD i BX.d).2,1,true):=by rw[show (4*(i:Int)+((3:Nat):Int)).toNat=4*i+3 from Dz,Yx T i 3 b E4];rfl
      have t:((0:Nat):Int).tdiv 2=0:=rfl;have u:((1:Nat):Int).tdiv 2=0:=rfl;have x:((2:Nat):Int).tdiv 2=1:=rfl;have A:((3:Nat):Int).tdiv 2=1:=rfl;have W:((0:Nat):Int).tmod 2=0:=rfl;have Y:((1:Nat):Int).tmod 2=1:=rfl;have Z:((2:Nat):Int).tmod 2=0:=rfl;have m3:((3:Nat):Int).tmod 2=1:=rfl;refine X0a _ ?_;(repeat' first|constructor|intro h)<;>refine Lm ?_
      all_goals(try simp only[Ir,Is,Ix,Me]at*)
      all_goals(try first
       |exact B4
       |((have B:k=0\/k=1\/k=2\/k=3:=Dz)
         rcases B with rfl|rfl|rfl|rfl;all_goals first
          |(simp only[t,u,x,A,AD];omega)
          |(refine⟨E4,?_⟩;simp only[t,u,x,A,AD];omega)
          |(exfalso;simp only[g0,g1,U,V,t,u,x,A,W,Y,Z,m3]at h;simp at h;done)))
      all_goals first
       |(refine⟨k+1,⟨b,Dz⟩,by show 4-(k+1)<4-k;omega,?_⟩
         all_goals refine X0a _ ?_;(repeat' first|constructor|intro h)<;>refine Lm ?_
         all_goals first
          |rfl
          |omega
          |exact B3
          |exact A5
          |skip)
       |(refine⟨i+1,Eg,Ed,?_⟩
         all_goals refine X0a _ ?_;(repeat' first|constructor|intro h)<;>refine Lm ?_
         all_goals first
          |rfl
          |omega
          |exact B3
          |exact A5
          |skip)
       |skip
    .have j:¬GA K C sd=0:=λq=>by
      unfold GA at q;split at q
      .rename_i g;have:=Qb g.1;omega
      .cases q
     exact⟨do_arg S.g Dz j a,fd_one j⟩
    .have j:GA K C sd=0:=by
      unfold GA AQ;rw[Ji (show 1<=K/\K<=4/\ -4096<=C/\C<=4096 from Dz),Ji ⟨rfl,Dz⟩]
     have E:i=T.length:=Dz;subst E;refine⟨g1k S.g Dz j (λho=> ?_) a,j⟩;have:=f5k.2 ((n (K,C)).2 ho);rw[this]at h;cases h
    .have E:i=T.length:=Dz;subst E;exact(do_fd S.g Dz S.pr.1.2 ((n (K,C)).1 (f5k.1 h)) Dz a).1
theorem pFL_of(a:PS 10 SL):PS 4 (Pv FFL):=top_of ⟨_,Tryz.func4,E1,E1⟩ λ((w,v,l),(K,C,sd,ov)) b=>by
 obtain⟨c,d,e,f⟩:=b;rcases hS:Pn w v l with⟨p,r,L⟩
 exact pFL_at a c d e f hS rfl
theorem g4b{q:Int×Int×List (Int×Int×Int)}{f:Int×Int×Int×Bool}(h:Ob q.1 q.2.1 q.2.2)(a:AD .u8 f.1/\AD .i64 f.2.1/\AD .u8 f.2.2.1):FFL.pre (q,f):=⟨h,a⟩
end Go.Proofs.YtlffhjfkaepimaaGreatDoor.V
