/-
  Parts of the proof: C9b C9c C9 C10 C11a C11 C12 C13 C14 C30 Y1 Y2 Y3 Y4 Y5 Y6 Y7 Y8 D5 D6 D10 Y9 Y10 D7 D8 D9 D11 D13 Y11 C21 Q5 A23 Q6 A24 A25 A26 A28 A27 A30 A31 Q8. Conditions: none.
-/
import Derived.Test.YtngppkidkigcbaaGreatDoorSfc3
import Derived.Test.YtngppkidkigcbaaGreatDoorSfc5
set_option maxRecDepth 100000
set_option maxHeartbeats 40000000
namespace Go.Proofs
open Go Go.Lib Go.RowKit Go.Shelf Go.Sort
shelf_lay_g SlLaysF0.n6 Slsf 6 at Tryz 115 as Tryz.sortKey
shelf_lay_g SlLaysF0.n6 Slsf 6 at Tryz 75 as Tryz.sortStack
end Go.Proofs
namespace Go.Proofs.YtngppkidkigcbaaGreatDoor.V
open Go
def CB(p:Pt)(r:Mv)(L:List Stk):Bd:=⟨p,BL p r,Bo p r,HF L (AG p.W p.H)⟩
def EN(b:Bd):Nat->List Sm
 |0=>[]
 |k+1=>GL b ((k/3:Nat):Int) ((k%3:Nat):Int) (EN b k)
def CQ(s:Sm)(d:Int):Cl:=if d=0 then s.a else s.b
def OO(s:Sm)(d:Int):Cl:=if d=0 then s.b else s.a
def AU(p:Pt)(u:Int):Prop:=0<=u/\u<4*p.W*p.H
def Ty(p:Pt)(r:Mv)(x y:Int)(c:Cl):Prop:=∃e,(0<=e/\e<3)/\FM p r x e=c/\AQ p.W p.H x e=0/\y=AF p.W p.H x e
def PsOK(p:Pt)(r:Mv)(s:Sm)(x:Pa):Prop:=(AU p x.a/\AU p x.b)/\(CG p r x.a=s.a/\CG p r x.b=s.b)/\Ty p r x.a x.b s.b/\Ty p r x.b x.a s.a
def VU(p:Pt)(r:Mv)(s:Sm)(x:Lo):Prop:=(x.s=0\/x.s=1)/\(AU p x.a/\AU p x.b)/\(CG p r x.a=CQ s x.s/\CG p r x.b=CQ s x.s)/\Ty p r x.a x.b (OO s x.s)/\Ty p r x.b x.a (OO s x.s)
structure SmOK (p:Pt) (r:Mv) (s:Sm):Prop where
 ab:AZ (BN s.a) (BN s.b)<0
 va:vC s.a
 vb:vC s.b
 ps:∀x∈s.ps,PsOK p r s x
 ls:∀x∈s.ls,VU p r s x
 en:∀x∈s.en,AU p x
section
variable{p:Pt}{r:Mv}{L:List Stk}
theorem imS_of(u:Int):EO (CB p r L) u=CG p r u:=rfl
theorem f67(S:SkOK p r L){u e:Int}(a:AU p u)(b:0<=e/\e<3):FD (CB p r L) u e=FM p r u e:=by
 obtain⟨g1,g,g3⟩:=Sd S a.1 a.2;obtain⟨i,_,_⟩:=WI S a.1 a.2 b;have j:=f20 S.hs a.1 a.2 b;have c:FO (BO p.W p.H u) (BP p.W p.H u) (BT p.W p.H u) e=0:=j;have k:ID (BO p.W p.H u) (BP p.W p.H u) (BT p.W p.H u) e=(AP (AH p.W p.H u) e).x:=by simp[ID,c,AP,AH]
 have l:IF (BO p.W p.H u) (BP p.W p.H u) (BT p.W p.H u) e=(AP (AH p.W p.H u) e).y:=by simp[IF,c,AP,AH]
 have m:HH (BO p.W p.H u) (BP p.W p.H u) (BT p.W p.H u) e=(AP (AH p.W p.H u) e).q:=by simp[HH,c,AP,AH]
 have n:=Ul S.hs a.1 a.2;have hb:=LQ n.2.2 b;have o:EH (AP (AH p.W p.H u) e).x (AP (AH p.W p.H u) e).y (AP (AH p.W p.H u) e).q=0:=G6;have ed:EH (FM p r u e).x (FM p r u e).y (FM p r u e).q=0:=by unfold vC at i;unfold EH;rw[if_pos];omega
 have em:GR (AO p r u).t (AO p r u).x (AO p r u).y (AP (AH p.W p.H u) e).x (AP (AH p.W p.H u) e).y (AP (AH p.W p.H u) e).q=0:=by unfold GR;rw[Ih ⟨g.2,o⟩,Ih];exact ed
 show (⟨keep _ _,keep _ _,keep _ _⟩:Cl)=_;simp only[CB];rw[k,l,m];have f:GR ((BL p r).getD u.toNat AE.d).t ((BL p r).getD u.toNat AE.d).x ((BL p r).getD u.toNat AE.d).y (AP (AH p.W p.H u) e).x (AP (AH p.W p.H u) e).y (AP (AH p.W p.H u) e).q=0:=em;simp only[keep,f,Jv];rfl
theorem f3r{a b:Cl}(h:a≠b):AZ (BN a) (BN b)<0\/AZ (BN b) (BN a)<0:=by
 have:=IV (BN a) (BN b);by_cases e:AZ (BN a) (BN b)=0
 .exact absurd (b7w (Of _ _ e)) h
 .omega
theorem lohi{x y:Cl}(h:x≠y):AZ (BN (NR x y)) (BN (NF x y))<0/\((NR x y=x/\NF x y=y)\/(NR x y=y/\NF x y=x)):=by
 unfold NR NF;rw[TW];have:=IV (BN x) (BN y);rcases f3r h with a|a
 .rw[Ii Dj,Ii Dj];exact⟨a,.inl ⟨rfl,rfl⟩⟩
 .rw[Ih Dj,Ih Dj];exact⟨a,.inr ⟨rfl,rfl⟩⟩
theorem c1a{s t:Sm}(h:CD s=CD t):s.a=t.a/\s.b=t.b:=by simp only[CD,Ia]at h;exact⟨Cl.ext' h.1 h.2.1 h.2.2.1,Cl.ext' h.2.2.2.1 h.2.2.2.2.1 h.2.2.2.2.2⟩
theorem b8c{S:List Sm}{q:List Int}(h:DC S q=true):CD (S.getD (Co S q) BA)=q:=by have a:=MX h;have:=List.findIdx_getElem (p:=λs=>decide (CD s=q)) (xs:=S) (w:=a);rw[If,Ig a];unfold Co;simpa using this
theorem b9n(S:SkOK p r L){u e:Int}(a:AU p u)(b:0<=e/\e<3)(c:AQ p.W p.H u e=0)(k:Al p u e=0):
 AU p (AF p.W p.H u e)/\CG p r (AF p.W p.H u e)=FM p r u e/\FM p r (AF p.W p.H u e) e=CG p r u/\AQ p.W p.H (AF p.W p.H u e) e=0/\AF p.W p.H (AF p.W p.H u e) e=u:=by
 have hN:=DB S.hs;obtain⟨d,g⟩:=FT S.hs a.1 a.2 b c;have h:=Pc S.hs a.1 a.2 b c;have f:((u.toNat:Nat):Int)=u:=by have:=a.1;omega
 have i:=S.P.pass u.toNat e (by have:=a.1;have:=a.2;omega) b (by rw[f];exact c) (by rw[f];exact k);rw[f]at i;have j:AO p r (AF p.W p.H u e)=AO p r u:=i;have l:=(Sd S d.1 d.2).1;have m:=(Sd S a.1 a.2).1;refine⟨d,?_,?_,h.1,h.2⟩
 .rw[l,j,g];rfl
 .unfold FM;rw[j,g,Tz (Ul S.hs a.1 a.2).2.2 b,m]
theorem c0a(S:SkOK p r L){u e:Int}(a:AU p u)(b:0<=e/\e<3)(d:AQ p.W p.H u e=0)(i:Al p u e≠0):
 AU p (AF p.W p.H u e)/\CG p r (AF p.W p.H u e)=CG p r u/\FM p r (AF p.W p.H u e) e=FM p r u e/\AQ p.W p.H (AF p.W p.H u e) e=0/\AF p.W p.H (AF p.W p.H u e) e=u:=by
 have hN:=DB S.hs;obtain⟨j,g⟩:=FT S.hs a.1 a.2 b d;have h:=Pc S.hs a.1 a.2 b d;have f:((u.toNat:Nat):Int)=u:=by have:=a.1;omega
 have c:=S.P.loop u.toNat e (by have:=a.1;have:=a.2;omega) b (by rw[f];exact d) (by rw[f];exact i);rw[f]at c;obtain⟨c,k⟩:=c;refine⟨j,c,?_,h.1,h.2⟩;show DF (AO p r (AF p.W p.H u e)) (AP (AH p.W p.H (AF p.W p.H u e)) e)=DF (AO p r u) (AP (AH p.W p.H u) e);rw[g,Tz (Ul S.hs a.1 a.2).2.2 b,<-g];exact k
theorem add_ok(S:SkOK p r L){u e:Int}(g:AU p u)(f:0<=e/\e<3){s:Sm}(h:SmOK p r s)(A:(s.a=CG p r u/\s.b=FM p r u e)\/(s.a=FM p r u e/\s.b=CG p r u)):SmOK p r (IB (CB p r L) u e s):=by
 have B:=(WI S g.1 g.2 f).2.1;unfold IB;show SmOK p r (if AQ p.W p.H u e=0 then _ else _);split;rotate_left
 .exact⟨h.ab,h.va,h.vb,h.ps,h.ls,λx hx=>by
   rcases Jd.1 hx with hx|hx
   .exact h.en x hx
   .rw[J6.1 hx];exact g⟩
 rename_i j;show SmOK p r (if AF p.W p.H u e<u then _ else _);split
 .exact h
 rename_i b6;show SmOK p r (if Al p u e=0 then _ else _);split
 .rename_i z;obtain⟨g1,k,l,m,n⟩:=b9n S g f j z;refine⟨h.ab,h.va,h.vb,λx hx=> ?_,h.ls,h.en⟩;rcases Jd.1 hx with hx|hx
  .exact h.ps x hx
  .rw[J6]at hx;have hx:x=if CG p r u=s.b then⟨AF p.W p.H u e,u⟩else⟨u,AF p.W p.H u e⟩:=hx;rcases A with⟨i,c⟩|⟨i,c⟩
   .rw[Ii (by rw[c];exact λq=>B q.symm)]at hx;subst hx;exact⟨⟨g,g1⟩,⟨i.symm,k.trans c.symm⟩,⟨e,f,c.symm,j,rfl⟩,⟨e,f,l.trans i.symm,m,n.symm⟩⟩
   .rw[Ih c.symm]at hx;subst hx;exact⟨⟨g1,g⟩,⟨k.trans i.symm,c.symm⟩,⟨e,f,l.trans c.symm,m,n.symm⟩,⟨e,f,i.symm,j,rfl⟩⟩
 .rename_i z;obtain⟨g1,k,l,m,n⟩:=c0a S g f j z;refine⟨h.ab,h.va,h.vb,h.ps,λx hx=> ?_,h.en⟩;rcases Jd.1 hx with hx|hx
  .exact h.ls x hx
  .rw[J6]at hx;have o:∀d:Int,(d=0\/d=1)->CQ s d=CG p r u->OO s d=FM p r u e->VU p r s ⟨d,u,AF p.W p.H u e⟩/\VU p r s ⟨d,AF p.W p.H u e,u⟩:=λd C w y=>
    ⟨⟨C,⟨g,g1⟩,⟨w.symm,k.trans w.symm⟩,⟨e,f,y.symm,j,rfl⟩,⟨e,f,l.trans y.symm,m,n.symm⟩⟩,
     ⟨C,⟨g1,g⟩,⟨k.trans w.symm,w.symm⟩,⟨e,f,l.trans y.symm,m,n.symm⟩,⟨e,f,y.symm,j,rfl⟩⟩⟩
   have hx:x=⟨if CG p r u=s.b then 1 else 0,if(CB p r L).ht.getD u.toNat 0<(CB p r L).ht.getD (AF p.W p.H u e).toNat 0 then u else AF p.W p.H u e,if(CB p r L).ht.getD u.toNat 0<(CB p r L).ht.getD (AF p.W p.H u e).toNat 0 then AF p.W p.H u e else u⟩:=hx;have t:VU p r s ⟨if CG p r u=s.b then 1 else 0,u,AF p.W p.H u e⟩/\VU p r s ⟨if CG p r u=s.b then 1 else 0,AF p.W p.H u e,u⟩:=by
    rcases A with⟨i,c⟩|⟨i,c⟩
    .rw[Ii (by rw[c];exact λq=>B q.symm)];exact o 0 (.inl rfl) (by simp[CQ,i]) (by simp[OO,c])
    .rw[Ih c.symm];exact o 1 (.inr rfl) (by simp[CQ,c]) (by simp[OO,i])
   rcases Classical.em ((CB p r L).ht.getD u.toNat 0<(CB p r L).ht.getD (AF p.W p.H u e).toNat 0)with v|v
   .rw[Ih v,Ih v]at hx;rw[hx];exact t.1
   .rw[Ii v,Ii v]at hx;rw[hx];exact t.2
theorem at_ok(S:SkOK p r L){u e:Int}(f:AU p u)(i:0<=e/\e<3){T:List Sm}(h:∀s∈T,SmOK p r s):(∀s∈DN T (CG p r u) (FM p r u e),SmOK p r s)/\
 ∀s,CD s=IR (CG p r u) (FM p r u e)->(s.a=CG p r u/\s.b=FM p r u e)\/(s.a=FM p r u e/\s.b=CG p r u):=by
 have l:=(WI S f.1 f.2 i).2.1;have g:=lohi (Ne.symm l);have j:=(Sd S f.1 f.2).2.2;have k:=(WI S f.1 f.2 i).1;refine⟨λs hs=> ?_,λs hs=> ?_⟩
 .unfold DN at hs;split at hs
  .exact h s hs
  .rcases Jd.1 hs with hs|hs
   .exact h s hs
   .rw[J6.1 hs];refine⟨g.1,?_,?_,λx hx=>by simp at hx,λx hx=>by simp at hx,λx hx=>by simp at hx⟩
    .rcases g.2 with⟨c,d⟩|⟨c,d⟩
     .show vC (NR _ _);rw[c];exact j
     .show vC (NR _ _);rw[c];exact k
    .rcases g.2 with⟨c,d⟩|⟨c,d⟩
     .show vC (NF _ _);rw[d];exact k
     .show vC (NF _ _);rw[d];exact j
 .obtain⟨c,d⟩:=c1a (t:=⟨NR (CG p r u) (FM p r u e),NF (CG p r u) (FM p r u e),[],[],[]⟩) hs;rw[c,d];exact g.2
theorem mem_set{α:Type}{l:List α}{i:Nat}{x y:α}(h:y∈l.set i x):y=x\/y∈l:=by
 rcases L6 h with h|h
 .exact .inr h
 .exact .inl h
theorem f42(S:SkOK p r L){u e:Int}(a:AU p u)(b:0<=e/\e<3){T:List Sm}(h:∀s∈T,SmOK p r s):∀s∈GL (CB p r L) u e T,SmOK p r s:=by
 intro s hs;unfold GL at hs;rw[imS_of,f67 S a b]at hs;obtain⟨c,f⟩:=at_ok S a b h;have d:=Tv T (CG p r u) (FM p r u e);have g:=b8c d;rcases mem_set hs with rfl|hs
 .exact add_ok S a b (c _ (Do (MX d))) (f _ g)
 .exact c s hs
theorem Vp(S:SkOK p r L):∀k,k<=3*AG p.W p.H->∀s∈EN (CB p r L) k,SmOK p r s
 |0,_,s,hs=>by simp[EN]at hs
 |k+1,hk,s,hs=>by have hN:=DB S.hs;exact f42 S (u:=((k/3:Nat):Int)) (e:=((k%3:Nat):Int)) ⟨Dj,Dj⟩ ⟨Dj,Dj⟩ (Vp S k Dj) s hs
theorem c9z(S:SkOK p r L){x y z:Int}{c:Cl}(hx:AU p x)(a:Ty p r x y c)(b:Ty p r x z c):y=z:=by obtain⟨e,d,o1,_,rfl⟩:=a;obtain⟨e',f,o2,_,rfl⟩:=b;rw[f6p S hx.1 hx.2 d f (o1.trans o2.symm)]
theorem ps_inj(S:SkOK p r L){s:Sm}(h:SmOK p r s):∀x∈s.ps,∀y∈s.ps,Nf (HF L (AG p.W p.H)) x=Nf (HF L (AG p.W p.H)) y->x=y:=by intro x hx y g e;obtain⟨⟨c,a2⟩,⟨i,i2⟩,g1,_⟩:=h.ps x hx;obtain⟨⟨j,b2⟩,⟨k,j2⟩,d,_⟩:=h.ps y g;simp only[Nf,Ia]at e;have b:x.a=y.a:=f10 S c j (show CG p r x.a=CG p r y.a by rw[i,k]) e;rw[<-b]at d;have f:=c9z S c g1 d;cases x;cases y;simp only at b f;rw[b,f]
theorem ls_inj(S:SkOK p r L){s:Sm}(h:SmOK p r s):∀x∈s.ls,∀y∈s.ls,OM (HF L (AG p.W p.H)) x=OM (HF L (AG p.W p.H)) y->x=y:=by intro x hx y i e;obtain⟨_,⟨d,a2⟩,⟨j,i2⟩,g1,_⟩:=h.ls x hx;obtain⟨_,⟨k,b2⟩,⟨l,j2⟩,f,_⟩:=h.ls y i;simp only[OM,Ia]at e;obtain⟨b,e⟩:=e;have c:x.a=y.a:=f10 S d k (show CG p r x.a=CG p r y.a by rw[j,l,b]) e;rw[<-c,<-b]at f;have g:=c9z S d g1 f;cases x;cases y;simp only at c g b;rw[c,g,b]
theorem d3c(T:List Sm)(x y:Cl):(DN T x y).length<=T.length+1:=by unfold DN;split<;>simp
def Po(s:Sm)(k:Nat):Prop:=s.ps.length<=k/\s.ls.length<=k/\s.en.length<=k
theorem d5g{b:Bd}{u e:Int}{s:Sm}{k:Nat}(h:Po s k):Po (IB b u e s) (k+1):=by
 unfold Po at*;unfold IB;repeat' split
 all_goals(try simp only[I8])
 all_goals omega
theorem SP(b:Bd):∀k,(EN b k).length<=k/\∀s∈EN b k,Po s k
 |0=>⟨Ir _,λs hs=>by simp[EN]at hs⟩
 |k+1=>by
  obtain⟨h1,a⟩:=SP b k;have c:∀s∈DN (EN b k) (EO b ((k/3:Nat):Int)) (FD b ((k/3:Nat):Int) ((k%3:Nat):Int)),Po s k:=by
   intro s hs;unfold DN at hs;split at hs
   .exact a s hs
   .rcases Jd.1 hs with hs|hs
    .exact a s hs
    .rw[J6.1 hs];exact⟨Ix _,Ix _,Ix _⟩
  refine⟨?_,λs hs=> ?_⟩
  .show (GL _ _ _ _).length<=_;rw[c4s];have:=d3c (EN b k) (EO b ((k/3:Nat):Int)) (FD b ((k/3:Nat):Int) ((k%3:Nat):Int));omega
  .have hs:s∈GL b ((k/3:Nat):Int) ((k%3:Nat):Int) (EN b k):=hs;unfold GL at hs;rcases mem_set hs with rfl|hs
   .exact d5g (c _ (Do (MX (Tv _ _ _))))
   .have:=c s hs;unfold Po at*;omega
theorem d20(S:SkOK p r L){s:Sm}(h:SmOK p r s)(b:Po s 100000):c79 (CB p r L) s:=by
 have hN:=DB S.hs;refine⟨b,⟨λx hx=> ?_,λx hx=> ?_⟩,ps_inj S h,ls_inj S h⟩
 .have:=(h.ps x hx).1.1;unfold AU at this;show 0<=x.a/\x.a<((HF L (AG p.W p.H)).length:Int);rw[WF];omega
 .have:=(h.ls x hx).2.1.1;unfold AU at this;show 0<=x.a/\x.a<((HF L (AG p.W p.H)).length:Int);rw[WF];omega
end
section
open Go.Sort Go.Proofs Go.Shelf
def Ui:AK
 | [.agg [.int .i64 a,.int .i64 b,.int .u8 c,.int .i64 d,.int .i64 e,.int .u8 f],.agg [.int .i64 i,.int .i64 j,.int .u8 g,.int .i64 k,.int .i64 l,.int .u8 h]]=>some ((AD .u8 c/\AD .u8 f)/\AD .u8 g/\AD .u8 h,.int .i64 (KL [FF a b c i j g,FF d e f k l h]))
 |_=>none
def FOf1:Fam:=⟨(Int×Int×Int×Int×Int×Int)×Int×Int×Int×Int×Int×Int,λ((a,b,c,d,e,f),i,j,g,k,l,h)=>[.agg [.int .i64 a,.int .i64 b,.int .u8 c,.int .i64 d,.int .i64 e,.int .u8 f],.agg [.int .i64 i,.int .i64 j,.int .u8 g,.int .i64 k,.int .i64 l,.int .u8 h]],
 λ((_,_,c,_,_,f),_,_,g,_,_,h)=>(AD .u8 c/\AD .u8 f)/\AD .u8 g/\AD .u8 h,λ((a,b,c,d,e,f),i,j,g,k,l,h)=>.int .i64 (KL [FF a b c i j g,FF d e f k l h])⟩
theorem pOf1:PS 116 Ui:=by
 refine con [(77,Qe),(117,Wc)] (by simpa using⟨b0t,pOrL⟩) FOf1 (λ_ _=>none) Ui ?_ ?_ Tryz.func116 Dk Dk Dk ?_
 .intro args pre s h g;unfold Ui at h;split at h
  .rename_i a b c d e f l m j n o k;cases h;exact⟨((a,b,c,d,e,f),l,m,j,n,o,k),by simp[FOf1,BG,SV.le2,SV.le1,BJ,SV.le0],g,rfl⟩
  .cases h
 .exact Bt
 .rintro⟨⟨a,b,c,d,e,f⟩,l,m,j,n,o,k⟩ g;replace g:(AD .u8 c/\AD .u8 f)/\AD .u8 j/\AD .u8 k:=g;refine X0 _ ?_;(repeat' first|constructor|intro h)<;>refine Lm ?_
  all_goals(first
   |exact⟨g.1.1,g.2.1⟩
   |exact⟨g.1.2,g.2.2⟩
   |rfl
   |exact⟨λi q=>match i,q with
    |0,_=>rfl
    |1,_=>rfl,Dj⟩
   |omega
   |skip)
def Ml(k:Ky):List Int:=BN k.a++BN k.b
theorem d30{x y:Ky}(h:Ml x=Ml y):x=y:=by simp only[Ml,BN,L8,M8,Ia]at h;cases x;cases y;simp only at h;rw[Cl.ext' h.2.1 h.1 h.2.2.1,Cl.ext' h.2.2.2.2.1 h.2.2.2.1 h.2.2.2.2.2]
theorem c1g:∀(a b c d:List Int),a.length=b.length->AZ (a++c) (b++d)=if AZ a b=0 then AZ c d else AZ a b
 | [],[],c,d,_=>by simp[AZ]
 |x::a,y::b,c,d,h=>by
  by_cases e:x=y
  .simp only[L8,AZ,e,Jv];exact c1g a b c d Dr
  .have f:CJ x y≠0:=by unfold CJ;split<;>(try split)<;>omega
   simp[AZ,e,f]
 | [],_::_,_,_,h=>Dv
 |_::_,[],_,_,h=>Dv
theorem f86(x y:Ky):KL [FF x.a.x x.a.y x.a.q y.a.x y.a.y y.a.q,FF x.b.x x.b.y x.b.q y.b.x y.b.y y.b.q]=AZ (Ml x) (Ml y):=by
 rw[TW,TW,Ml,Ml,c1g (BN x.a) (BN y.a) (BN x.b) (BN y.b) rfl];simp only[KL];split
 .split<;>simp_all
 .rfl
def kyQ(k:Ky):Prop:=AD .u8 k.a.q/\AD .u8 k.b.q
def b86:JT:=λ_ b n g a=>match a with
 | [.clo f []]=>if f=116/\b=6 then some (GD.is n g/\n<=100000/\(∀x∈GD.lst n g,kyQ x),GD.row (GC Ml (GD.lst n g)),false)else none
 |_=>none
theorem f7n:ES 115 b86:=by
 refine f89 GD Tryz.sortKey rfl ⟨_,Tryz.func115,Dk,Dk⟩ (λw=>Tryz.isAgg205 w) (λw=>Tryz.sizeOf205 w) (λ_=>rfl) (λx s hs=> ?_) Ui pOf1 (enters_of Tryz.func116 Dk rfl) b86 ?_
 .simp[GD]at hs;rcases hs with rfl|rfl|rfl|rfl|rfl|rfl<;>exact⟨_,_,rfl⟩
 .intro T sz n g rest pre g' r h;unfold b86 at h;split at h;rotate_left
  .cases h
  rename_i f;split at h;rotate_left
  .cases h
  rename_i d;obtain⟨rfl,rfl⟩:=d;cases h;refine⟨rfl,rfl,[],Ml,rfl,λc=>⟨c.1,c.2.1,λx hx y i=> ?_,λx _ y _ e=>d30 e,rfl⟩⟩;refine⟨(AD .u8 x.a.q/\AD .u8 x.b.q)/\AD .u8 y.a.q/\AD .u8 y.b.q,?_,c.2.2 x hx,c.2.2 y i⟩;show Ui [.agg [.int .i64 x.a.x,.int .i64 x.a.y,.int .u8 x.a.q,.int .i64 x.b.x,.int .i64 x.b.y,.int .u8 x.b.q],.agg [.int .i64 y.a.x,.int .i64 y.a.y,.int .u8 y.a.q,.int .i64 y.b.x,.int .i64 y.b.y,.int .u8 y.b.q]]=_;simp only[Ui,f86]
def JQ(s:Sm):List SV:=[.int .i64 s.a.x,.int .i64 s.a.y,.int .u8 s.a.q,.int .i64 s.b.x,.int .i64 s.b.y,.int .u8 s.b.q,.sl 2 s.ps.length (BV.row s.ps) none,.sl 3 s.ls.length (BR.row s.ls) none,.sl 1 s.en.length (AC.row s.en) none]
def smRd:List SV->Sm
 | [.int _ a,.int _ b,.int _ c,.int _ d,.int _ e,.int _ f,x,y,z]=>⟨⟨a,b,c⟩,⟨d,e,f⟩,match BV.as x with|some (n,f)=>BV.lst n f|none=>[],match BR.as y with|some (n,f)=>BR.lst n f|none=>[],match AC.as z with|some (n,f)=>AC.lst n f|none=>[]⟩
 |_=>BA
theorem f2z(s:Sm):smRd (JQ s)=s:=by have a:BV.as (.sl 2 s.ps.length (BV.row s.ps) none)=some (s.ps.length,BV.row s.ps):=rfl;have b:BR.as (.sl 3 s.ls.length (BR.row s.ls) none)=some (s.ls.length,BR.row s.ls):=rfl;have c:AC.as (.sl 1 s.en.length (AC.row s.en) none)=some (s.en.length,AC.row s.en):=rfl;simp only[smRd,JQ,a,b,c,RT.lst_row]
def FI:RT Sm:=⟨9,JQ,smRd,BA,f2z⟩
def FN(p:Pt)(r:Mv)(L:List Stk):List Sm:=if DP p r L=0 then
    (GC Ml ((EN (CB p r L) (3*AG p.W p.H)).map KG)).map λk=>KJ (CB p r L) ((EN (CB p r L) (3*AG p.W p.H)).getD (Co (EN (CB p r L) (3*AG p.W p.H)) (CD (sN k.a k.b))) BA)
 else []
end
def rSeOf(p:Pt)(r:Mv)(L:List Stk):SV:=.tup [.sl 9 (FN p r L).length (FI.row (FN p r L)) none,.int .i64 (DP p r L)]
def d63:AK
 | [x,y,z]=>match Pf [x,y],KD z with
   |some q,some s=>some (q.1/\s.1/\(∀t∈s.2,AD .u8 t.c.q)/\(CF s.2).length<=100000,rSeOf q.2.1 q.2.2 s.2)
   |_,_=>none
 |_=>none
def FSeOf:Fam:=⟨Pt×Mv×List Stk,λ(p,r,L)=>[IG p,Ms r,Eo L],λ(p,r,L)=>EL p r/\FK L,λ(p,r,L)=>rSeOf p r L⟩
def Pl(L:List Stk)(i k:Nat):List (Int×Nat):=Qj (L.take i)++((L.getD i AA.d).l.zipIdx).take k
def KX(L:List Stk)(n i k:Nat):List Int:=(Pl L i k).foldl Pr (List.replicate n 0)
theorem XK(L:List Stk)(n i k:Nat):(KX L n i k).length=n:=by simp[KX,b7m]
theorem c5h(L:List Stk)(i:Nat):Pl L i 0=Qj (L.take i):=by simp[Pl]
theorem d59{L:List Stk}{i:Nat}(hi:i<L.length):Pl L i (L.getD i AA.d).l.length=Pl L (i+1) 0:=by
 rw[c5h];have:L.take (i+1)=L.take i++[L.getD i AA.d]:=by rw[La];simp[hi]
 rw[this];unfold Pl Qj;rw[List.flatMap_append];have e:List.take (L.getD i AA.d).l.length (L.getD i AA.d).l.zipIdx=(L.getD i AA.d).l.zipIdx:=Kh Dm;rw[e];simp
theorem d81{L:List Stk}{n i k:Nat}(a:k<(L.getD i AA.d).l.length):KX L n i (k+1)=(KX L n i k).set ((L.getD i AA.d).l.getD k 0).toNat (k:Int):=by
 have:Pl L i (k+1)=Pl L i k++[((L.getD i AA.d).l.getD k 0,k)]:=by unfold Pl;rw[La,<-Ls];congr 1;rw[List.getElem?_zipIdx,Ig a,If (l:=(L.getD i AA.d).l),Ig a];simp
 unfold KX;rw[this,List.foldl_append];rfl
theorem f73(L:List Stk)(n:Nat):KX L n L.length 0=HF L n:=by unfold KX HF;rw[c5h,Kh (Ir _)]
def XG(p:Pt)(r:Mv)(b:List Int)(S:List Sm)(ks:SV)(a:List Blk):List Blk:=.cells 26 [.int .i64 p.W,.int .i64 p.H,.sl 3 p.l.length (DS p.l) none]::.cells 28 [.int .u8 r.t,.int .i64 r.x,.int .i64 r.y]::.row 3 1 b.length (AC.row b) none::
 .pmap (.ints [.i64,.i64,.u8,.i64,.i64,.u8]) 5 (DC S) (Co S)::
 .cells 201 [.int .i64 p.W,.int .i64 p.H,.sl 3 p.l.length (DS p.l) none,.sl 3 (BL p r).length (AE.row (BL p r)) none,.sl 3 (Bo p r).length (CO.row (Bo p r)) none,.osl 2,.omp 3,ks]::
 .fam 161 [(253,2),(164,3),(3,1)] S.length none (λi=>Il (S.getD i BA))::a
theorem d53{L:List Stk}{n i:Nat}(hi:i<L.length):KX L n i (L.getD i AA.d).l.length=KX L n (i+1) 0:=by unfold KX;rw[d59 hi]
theorem c39{l:List Int}{m:Nat}{x:Int}(h:m<l.length)(j:Nat):DH (decide (j=m)) [SV.int .i64 x] (AC.row l j)=AC.row (l.set m x) j:=by
 by_cases e:j=m
 .rw[J7 e,b0x AC h e];rfl
 .rw[J9 e,b2y AC e];rfl
theorem d31(S:List Sm):GD.lst S.length (JB S)=S.map KG:=by have h:JB S=GD.row (S.map KG):=Md (d49 S);have:=RT.lst_row GD (S.map KG);rw[h];simpa using this
theorem d6d(s:Sm):CD (sN (KG s).a (KG s).b)=CD s:=rfl
theorem c13(b:Bd):∀k,((EN b k).map CD).Nodup
 |0=>Mf
 |k+1=>by
  have a:=c13 b k;show ((GL b _ _ _).map CD).Nodup;rw[b3f];unfold DN;split
  .exact a
  .rename_i h;rw[L5];refine List.nodup_append.2 ⟨a,Dm,λx hx y c e=> ?_⟩;simp only[K1,List.map_nil,J6]at c;subst e;subst c;apply h;rw[SG];exact J3.2 ⟨_,hx,by simp[IR]⟩
def HI(b:Bd)(S:List Sm)(K:List Ky):Nat->List Sm
 |0=>S
 |i+1=>(HI b S K i).set (Co (HI b S K i) (CD (sN (K.getD i GD.d).a (K.getD i GD.d).b))) (KJ b ((HI b S K i).getD (Co (HI b S K i) (CD (sN (K.getD i GD.d).a (K.getD i GD.d).b))) BA))
def GE(p:Pt)(r:Mv)(L:List Stk):List Sm:=EN (CB p r L) (3*AG p.W p.H)
def DI(p:Pt)(r:Mv)(L:List Stk):List Ky:=GC Ml ((GE p r L).map KG)
section
variable{b:Bd}{S:List Sm}{K:List Ky}
def qK(K:List Ky)(i:Nat):List Int:=CD (sN (K.getD i GD.d).a (K.getD i GD.d).b)
theorem b47:∀i,(HI b S K i).map CD=S.map CD
 |0=>rfl
 |i+1=>by show ((HI b S K i).set _ _).map CD=_;rw[b1t _ _ _ (c73 b _),b47 i]
theorem c6j(i:Nat):(HI b S K i).length=S.length:=by simpa using Lz List.length (b47 (b:=b) (S:=S) (K:=K) i)
theorem d71(i:Nat)(q:List Int):DC (HI b S K i) q=DC S q:=by rw[SG,SG,b47]
theorem XJ(i:Nat)(q:List Int):Co (HI b S K i) q=Co S q:=by rw[Uf,Uf,b47]
theorem b7v(a:∀i,i<K.length->DC S (qK K i)=true)(d:∀i j,i<j->j<K.length->qK K i≠qK K j):∀i j,i<=j->j<K.length->(HI b S K i).getD (Co S (qK K j)) BA=S.getD (Co S (qK K j)) BA
 |0,j,_,_=>rfl
 |i+1,j,h1,c=>by
  show ((HI b S K i).set (Co (HI b S K i) (qK K i)) _).getD _ _=_;have f:=a i Dj;have k:Co (HI b S K i) (qK K i)<(HI b S K i).length:=by rw[XJ,c6j];exact MX f
  rw[Xf k,XJ,Ii,b7v a d i j Dj c];intro e;have l:=b8c f;have g:=b8c (a j c);rw[e]at g;exact d i j Dj c (l.symm.trans g)
end
theorem c7d(b:Bd){u e:Nat}(he:e<3):EN b (3*u+e+1)=GL b (u:Int) (e:Int) (EN b (3*u+e)):=by show GL b _ _ _=_;rw[show (3*u+e)/3=u from Dj,show (3*u+e)%3=e from Dj]
section
variable{p:Pt}{r:Mv}{L:List Stk}
theorem d6k{k:Ky}:k∈DI p r L↔∃s∈GE p r L,KG s=k:=by unfold DI;rw[Qp,J4]
theorem Tq{i:Nat}(h:i<(DI p r L).length):DC (GE p r L) (qK (DI p r L) i)=true:=by obtain⟨s,hs,e⟩:=d6k.1 (Do (d:=GD.d) h);unfold qK DC;rw[<-e];exact J3.2 ⟨s,hs,by simp[d6d]⟩
theorem qK_inj{x y:Ky}(h:CD (sN x.a x.b)=CD (sN y.a y.b)):x=y:=by obtain⟨c,d⟩:=c1a h;cases x;cases y;simp only at c d;rw[c,d]
theorem d2g{i j:Nat}(d:i<j)(c:j<(DI p r L).length):qK (DI p r L) i≠qK (DI p r L) j:=by
 have f:(DI p r L).Nodup:=by
  have g:((GE p r L).map KG).Nodup:=by
   have:=c13 (CB p r L) (3*AG p.W p.H);have e:((GE p r L).map KG).map (λk=>CD (sN k.a k.b))=(GE p r L).map CD:=by rw[Lq];rfl
   have c:(((GE p r L).map KG).map (λk=>CD (sN k.a k.b))).Nodup:=by rw[e];exact this
   exact(Kf.1 c).imp (λl e=>l (by rw[e]))
  exact(TP _ _).nodup_iff.2 g
 intro e;have:=qK_inj e;rw[If,If,Ig Dj,Ig c]at this;exact(Jr.1 (show List.Pairwise (λx y=>x≠y) _ from f)) i j Dj c d this
theorem f6c(S:SkOK p r L)(a:EL p r){k u e:Nat}(hk:k<=3*AG p.W p.H)(jf:u<AG p.W p.H)(he:e<3):bdIn (CB p r L) (EN (CB p r L) k) (u:Int) (e:Int):=by
 have hN:=DB S.hs;have hs:=SP (CB p r L) k;refine⟨a.1,⟨Dj,Dj⟩,⟨Dj,?_,?_,?_⟩,λb=> ?_,c0t a.2.1,λc f=> ?_,Dj,λs h=> ?_⟩
 .show (u:Int)<((BL p r).length:Int);rw[S.P.pl];omega
 .show (u:Int)<((Bo p r).length:Int);rw[S.P.il];omega
 .show (u:Int)<((HF L (AG p.W p.H)).length:Int);rw[WF];omega
 .have:=(FT S.hs (i:=(u:Int)) (e:=(e:Int)) Dj Dj ⟨Dj,Dj⟩ b).1;show 0<=AF p.W p.H u e/\AF p.W p.H u e<((HF L (AG p.W p.H)).length:Int);rw[WF];omega
 .obtain⟨i,g,rfl⟩:=Ou (d:=CO.d) (show c∈Bo p r from f);have j:i<AG p.W p.H:=by rw[<-S.P.il];exact g
  have:=(S.P.im i j).2.2.2;show 0<=_/\_<=255;omega
 .have:=hs.2 s h;unfold Po at this;omega
theorem seam_q(S:SkOK p r L){k:Nat}(c:k<=3*AG p.W p.H):∀x∈(EN (CB p r L) k).map KG,kyQ x:=by intro x hx;obtain⟨s,hs,rfl⟩:=J4.1 hx;have h:=Vp S k c s hs;have d:=h.va.2.2;have e:=h.vb.2.2;exact⟨⟨d.1,by show s.a.q<=255;omega⟩,⟨e.1,by show s.b.q<=255;omega⟩⟩
theorem b3z:(DI p r L).length=(GE p r L).length:=by simp[DI,QG]
theorem f07(h:DP p r L=0):FN p r L=(DI p r L).map λk=>KJ (CB p r L) ((GE p r L).getD (Co (GE p r L) (CD (sN k.a k.b))) BA):=by unfold FN;rw[Ih h];rfl
theorem c2n(h:DP p r L=0){i:Nat}(hi:i<(DI p r L).length):(FN p r L).getD i BA=KJ (CB p r L) ((GE p r L).getD (Co (GE p r L) (qK (DI p r L) i)) BA):=by rw[f07 h,If,Jb,Ig hi];simp only[Ju,I6,qK,Ig hi]
theorem b8d(h:DP p r L=0):(FN p r L).length=(DI p r L).length:=by rw[f07 h,Jp]
end
def ISeOf:Pt×Mv×List Stk->Nat->Option Inv
 |(p,r,L),8=>some {β:=Nat,ok:=λi=>i<=L.length,st:=λi=>⟨[⟨54,none,.int .i64 i⟩,⟨53,none,.int .i64 L.length⟩,⟨52,none,.sl 4 L.length (AA.row L) none⟩,⟨9,none,.own 4 0⟩],XG p r (KX L (AG p.W p.H) i 0) [] (.con (.slice none 0 0)) []⟩,μ:=λi=>L.length-i,sub:=λi=>some fun|11=>some {β:=Nat,ok:=λk=>k<=(L.getD i AA.d).l.length,st:=λk=>⟨[⟨61,none,.int .i64 k⟩,⟨60,none,.int .i64 (L.getD i AA.d).l.length⟩,⟨59,none,.sl 1 (L.getD i AA.d).l.length (AC.row (L.getD i AA.d).l) none⟩,⟨54,none,.int .i64 i⟩,⟨53,none,.int .i64 L.length⟩,⟨52,none,.sl 4 L.length (AA.row L) none⟩,⟨9,none,.own 4 0⟩],XG p r (KX L (AG p.W p.H) i k) [] (.con (.slice none 0 0)) []⟩,μ:=λk=>(L.getD i AA.d).l.length-k}|_=>none}
 |(p,r,L),17=>some {β:=Nat,ok:=λu=>u<=AG p.W p.H,st:=λu=>⟨[⟨80,none,.int .i64 u⟩,⟨79,none,.int .i64 (AG p.W p.H)⟩,⟨9,none,.own 4 0⟩],XG p r (HF L (AG p.W p.H)) (EN (CB p r L) (3*u)) (.osl 6) [.row 205 6 (EN (CB p r L) (3*u)).length (JB (EN (CB p r L) (3*u))) none]⟩,μ:=λu=>AG p.W p.H-u,nl:=[.cell 4 7 205 6],sub:=λu=>some fun|20=>some {β:=Nat,ok:=λe=>e<=3,st:=λe=>⟨[⟨83,none,.int .u8 e⟩,⟨14,none,.int .i64 u⟩,⟨80,none,.int .i64 u⟩,⟨79,none,.int .i64 (AG p.W p.H)⟩,⟨9,none,.own 4 0⟩],XG p r (HF L (AG p.W p.H)) (EN (CB p r L) (3*u+e)) (.osl 6) [.row 205 6 (EN (CB p r L) (3*u+e)).length (JB (EN (CB p r L) (3*u+e))) none]⟩,μ:=λe=>3-e}|_=>none}
 |(p,r,L),28=>some {β:=Nat,ok:=λi=>i<=(DI p r L).length,st:=λi=>⟨[⟨108,none,.int .i64 i⟩,⟨107,none,.int .i64 (DI p r L).length⟩,⟨106,none,.osl 6⟩,⟨16,none,.osl 7⟩,⟨9,none,.own 4 0⟩],XG p r (HF L (AG p.W p.H)) (HI (CB p r L) (GE p r L) (DI p r L) i) (.osl 6) [.row 205 6 (DI p r L).length (GD.row (DI p r L)) none,.row 161 9 (DI p r L).length (λj=>JQ (upto (λj=>(FN p r L).getD j BA) (λ_=>BA) i j)) none]⟩,μ:=λi=>(DI p r L).length-i}
 |_,_=>none
def smCs(s:Sm):List SV:=[.int .i64 s.a.x,.int .i64 s.a.y,.int .u8 s.a.q,.int .i64 s.b.x,.int .i64 s.b.y,.int .u8 s.b.q,.sl 2 s.ps.length (BV.row s.ps) (some s.ps.length),.sl 3 s.ls.length (BR.row s.ls) (some s.ls.length),.sl 1 s.en.length (AC.row s.en) (some s.en.length)]
theorem f68{A:Nat->Sm}{B:Nat->Sm}{i:Nat}{s:Sm}(hs:A i=s)(j:Nat):HC (DH (decide (j=i)) (smCs s) (JQ (upto A B i j))) (JQ (upto A B (i+1) j)):=by
 by_cases e:j=i
 .subst e;rw[J7 rfl,show upto A B (j+1) j=s by simp[upto,hs]];generalize upto A B j j=t;right;simp[smCs,JQ,DH,Qh,XM,SV.lf,HW]
 .rw[J9 e,show upto A B (i+1) j=upto A B i j by unfold upto;by_cases h:j<i;simp[h,show j<i+1 from Dj];simp[h,show¬j<i+1 from Dj]];left;rfl
theorem f72:HC [.int .i64 0,.int .i64 0,.int .u8 0,.int .i64 0,.int .i64 0,.int .u8 0,.con (.slice none 0 0),.con (.slice none 0 0),.con (.slice none 0 0)] (JQ BA):=by right;simp[JQ,BA,XM,SV.lf,HW]
theorem pSeOf:PS 80 d63:=by
 refine NH {l:=[(92,VM),(112,Tx),(113,c3j),(33,Ve)],x:=[(115,b86)],h:=[(114,c4c),(118,b3w)],c2:=true,gr:=λid=>bif Nat.beq id 4 then [.newFam 3 161 [(253,2),(164,3),(3,1)]]else []} ⟨by simpa using⟨c10,d0y,f4k,c2p⟩,by simpa using f7n,by simpa using⟨pBMeet,d9c⟩⟩ FSeOf ISeOf d63 ?_ ?_ Tryz.func80 Dk Dk Dk ?_
 .intro args pre s h hp;unfold d63 at h;split at h
  .rename_i x y z;split at h
   .rename_i q t w B;cases h;obtain⟨q,p,r⟩:=q;obtain⟨u,L⟩:=t;obtain⟨a1,a2⟩:=b90 w hp.1;obtain⟨b1,b2⟩:=Oe B hp.2.1;exact De
   .cases h
  .cases h
 .exact Bv
 .rintro⟨p,r,L⟩ ⟨c9,c8⟩;have hl:=c8.1.1;have n:DP p r L=0->SkOK p r L:=λh=>f77 h c9.2.1 c8.2.1;have I:DP p r L=0->(AG p.W p.H:Int)=4*p.W*p.H/\AG p.W p.H<=1024/\4<=AG p.W p.H:=λh=>DB (n h).hs;have M:DP p r L=0->EK p.W p.H=(AG p.W p.H:Int):=λh=>by rw[(I h).1];simp[EK,(n h).hs]
  have Q:DP p r L≠0->FN p r L=[]:=λh=>by unfold FN;rw[if_neg h]
  refine X0 _ ?_;(repeat' first|constructor|intro h)<;>refine Lm ?_
  all_goals(try simp only[CL,RT.lst_row,Xa,Wr]at*)
  all_goals(first
   |exact B1
   |exact Bb
   |exact λ_=>Im
   |rfl
   |(rw[Q Dp];rfl)
   |(have:=M Dp;have:=I Dp;refine⟨Dj,Dj,Qg Dk Dj Dj,Dj⟩)
   |skip)
  have g:DP p r L=0:=Dp;have c0:=M g;have n0:=I g;refine⟨(0:Nat),Ix _,?_,?_⟩
  .refine X0 _ ?_;(repeat' first|constructor|intro h)<;>refine Lm ?_
   all_goals(try simp only[]at*)
   all_goals(first
    |exact Ad
    |(rw[XK];omega)
    |exact Ai
    |(intro j hj;show [SV.int .i64 0]=AC.sv _;rw[show KX L (AG p.W p.H) 0 0=List.replicate (AG p.W p.H) 0 from rfl];simp only[If,List.getElem?_replicate];split<;>rfl)
    |skip)
  .intro i m;replace m:i<=L.length:=m;have hg:=QU c8.1 i;have J:i<L.length->∀v∈(L.getD i AA.d).l,0<=v/\v<(AG p.W p.H:Int):=λm v C=>by
    have:=(n g).rg v (List.mem_flatMap.2 ⟨_,Do m,C⟩);omega
   refine X0 _ ?_;(repeat' first|constructor|intro h)<;>refine Lm ?_
   all_goals(try simp only[Hv]at*)
   all_goals(first|omega|skip)
   .have f:i<L.length:=Dj;have J:=J f;refine⟨(0:Nat),Ix _,?_,?_⟩
    .refine X0 _ ?_;(repeat' first|constructor|intro h)<;>refine Lm ?_
     all_goals first|exact Ad|exact Ai|skip
    .intro k o;replace o:k<=(L.getD i AA.d).l.length:=o;have C:k<(L.getD i AA.d).l.length->0<=(L.getD i AA.d).l.getD k 0/\(L.getD i AA.d).l.getD k 0<(AG p.W p.H:Int):=λh=>J _ (Do h);have N:=XK L (AG p.W p.H) i k;refine X0 _ ?_;(repeat' first|constructor|intro h)<;>refine Lm ?_
     all_goals(try simp only[Hv]at*)
     all_goals(first
      |exact Ap
      |(have:=C Dj;show 0<=_/\_<((KX L (AG p.W p.H) i k).length:Int);rw[N];exact this)
      |(have:=C Dj;show ((L.getD i AA.d).l.getD k 0).toNat<_;rw[N];omega)
      |skip)
     .have F:k<(L.getD i AA.d).l.length:=Dj;have hvv:=C F;refine⟨k+1,by show k+1<=_;omega,Fi,?_⟩;refine X0 _ ?_;(repeat' first|constructor|intro h)<;>refine Lm ?_
      all_goals(first
       |exact Ad
       |(rw[XK,XK])
       |exact Ai
       |(intro j hj
         rw[d81 F];have G:((L.getD i AA.d).l.getD k 0).toNat<(KX L (AG p.W p.H) i k).length:=by rw[XK];omega
         exact c39 G j)
       |skip)
     .have F:k=(L.getD i AA.d).l.length:=Dj;subst F;refine⟨i+1,E1,Dy,?_⟩;rw[d53 f];refine X0 _ ?_;(repeat' first|constructor|intro h)<;>refine Lm ?_
      all_goals(first
       |exact Ad
       |exact Ai
       |skip)
   .have f:i=L.length:=Dj;subst f;refine⟨(0:Nat),Ix _,?_,?_⟩
    .rw[f73];refine X0 _ ?_;(repeat' first|constructor|intro h)<;>refine Lm ?_
     all_goals first|exact Ad|exact Ai|(rw[WF])|skip
    .intro u O;replace O:u<=AG p.W p.H:=O;refine X0 _ ?_;(repeat' first|constructor|intro h)<;>refine Lm ?_
     all_goals(try simp only[Hv]at*)
     all_goals(first
      |exact Ap
      |skip)
     .have E:u<AG p.W p.H:=Dj;refine⟨(0:Nat),Ix _,?_,?_⟩
      .refine X0 _ ?_;(repeat' first|constructor|intro h)<;>refine Lm ?_
       all_goals first|exact Ad|exact B7|skip
      .intro e P;replace P:e<=3:=P;refine X0 _ ?_;(repeat' first|constructor|intro h)<;>refine Lm ?_
       all_goals(try simp only[Hv]at*)
       all_goals(first
        |exact A4
        |skip)
       .simp only[CL,RT.lst_row,VQ];refine⟨⟨⟨⟨EY _,c9.1.1⟩,RT.is_row AE _,RT.is_row CO _,RT.is_row AC _⟩,Im,λ_ _=>Im,λ_=>Im,λ_ _=>Im,λi m=> ?_⟩,f6c (n g) c9 Dj E Dj⟩;rw[b3v];exact Sh _
       .simp only[CL,RT.lst_row,VQ];refine⟨e+1,by show e+1<=3;omega,G4,?_⟩;have hs':EN (CB p r L) (3*u+(e+1))=GL (CB p r L) (u:Int) (e:Int) (EN (CB p r L) (3*u+e)):=c7d (CB p r L) Dj;revert hs';generalize EN (CB p r L) (3*u+(e+1))=T;rintro rfl;exact X0h
       .have K:e=3:=Dj;subst K;refine⟨u+1,by show u+1<=_;omega,by show _-(u+1)<_-u;omega,?_⟩;exact X0h
     .have E:u=AG p.W p.H:=Dj;subst E;rw[d31];have:=(SP (CB p r L) (3*AG p.W p.H)).1;exact⟨λ_ _=>rfl,Dj,seam_q (n g) (Ir _)⟩
     .have:=(SP (CB p r L) (3*u)).1;refine⟨Dj,Dj,Qg Dk Dj Dj,Dj⟩
     .have E:u=AG p.W p.H:=Dj;subst E;rw[show EN (CB p r L) (3*AG p.W p.H)=GE p r L from rfl,d31,<-b3z,show GC Ml (List.map KG (GE p r L))=DI p r L from rfl];refine⟨(0:Nat),Ix _,?_,?_⟩
      .refine X0a _ ?_;(repeat' first|constructor|intro h)<;>refine Lm ?_
       all_goals(first
        |exact Ad
        |exact B7
        |exact A5
        |exact λ_ _=>f72
        |exact b3z
        |omega
        |skip)
      .intro i m;replace m:i<=(DI p r L).length:=m;refine X0a _ ?_;(repeat' first|constructor|intro h)<;>refine Lm ?_
       all_goals(try simp only[Hv]at*)
       all_goals(first
        |omega
        |(simp only[AD];have:=@b3z p r L;have:=(SP (CB p r L) (3*AG p.W p.H)).1;have:(GE p r L).length=(EN (CB p r L) (3*AG p.W p.H)).length:=rfl;omega)
        |(show i<(DI p r L).length;omega)
        |skip)
       .have f:i<(DI p r L).length:=Dj;have o:=Tq f;simp only[CL,RT.lst_row,VQ];refine⟨⟨⟨⟨EY _,c9.1.1⟩,RT.is_row AE _,RT.is_row CO _,RT.is_row AC _⟩,RT.is_row GD _,λ_=>Im,λ_ _=>Im,λj hj=> ?_⟩,?_,?_,?_⟩
        .rw[b3v];exact Sh _
        .show DC (HI (CB p r L) (GE p r L) (DI p r L) i) (qK (DI p r L) i)=true;rw[d71];exact o
        .show Co (HI (CB p r L) (GE p r L) (DI p r L) i) (qK (DI p r L) i)<(HI (CB p r L) (GE p r L) (DI p r L) i).length;rw[XJ,c6j];exact MX o
        .show c79 (CB p r L) ((HI (CB p r L) (GE p r L) (DI p r L) i).getD (Co (HI (CB p r L) (GE p r L) (DI p r L) i) (qK (DI p r L) i)) BA);rw[XJ,b7v (λj hj=>Tq hj) (λa b w B=>d2g w B) i i (Ir _) f];have G:=Do (d:=BA) (MX o);have hz:=(SP (CB p r L) (3*AG p.W p.H)).2 _ G;refine d20 (n g) (Vp (n g) _ (Ir _) _ G) ?_;unfold Po at*;omega
       .have f:i<(DI p r L).length:=Dj;have o:=Tq f;have R:(FN p r L).getD i BA=KJ (CB p r L) ((HI (CB p r L) (GE p r L) (DI p r L) i).getD (Co (HI (CB p r L) (GE p r L) (DI p r L) i) (qK (DI p r L) i)) BA):=by
         rw[c2n g f,XJ,b7v (λj hj=>Tq hj) (λa b w B=>d2g w B) i i (Ir _) f]
        simp only[CL,RT.lst_row,VQ];refine⟨i+1,E1,Dy,?_⟩;refine X0a _ ?_;(repeat' first|constructor|intro h)<;>refine Lm ?_
        all_goals(first
         |exact Ad
         |exact B7
         |exact A5
         |exact λj _=>f68 (A:=λj=>(FN p r L).getD j BA) R j
         |omega
         |skip)
       .exact(b8d g).symm
       .intro j hj;left;have:i=(DI p r L).length:=Dj;subst this;show JQ (upto _ _ _ j)=JQ _;rw[Xv _ _ hj];rfl
def asSm:SV->Option (Prop×Sm)
 |.agg [.int .i64 a,.int .i64 b,.int .u8 c,.int .i64 d,.int .i64 e,.int .u8 f,x,y,z]=>match BV.as x,BR.as y,AC.as z with
  |some u,some v,some w=>some (BV.is u.1 u.2/\BR.is v.1 v.2/\AC.is w.1 w.2,⟨⟨a,b,c⟩,⟨d,e,f⟩,BV.lst u.1 u.2,BR.lst v.1 v.2,AC.lst w.1 w.2⟩)
  |_,_,_=>none
 |_=>none
theorem d4f{x:SV}{q:Prop}{s:Sm}(h:asSm x=some (q,s))(g:q):x.le2 (.agg (JQ s)):=by
 unfold asSm at h;split at h
 .rename_i a b c d e f x y z;split at h
  .rename_i u v w i j k;cases h;obtain⟨l,m,n⟩:=g;have o:=BV.as_le i l;have r:=BR.as_le j m;have t:=AC.as_le k n;refine⟨Dq,Dq,Dq,Dq,Dq,Dq,o,r,t,Im⟩
  .cases h
 .cases h
def d3a(l:List Int)(g:Bool):List Blk:=[.cells 45 [.sl 1 l.length (AC.row l) none],.cells 4 [.bool g]]
def hSp1:HK:=λa own=>match a,own with
 | [.int .i64 v,.own 0 0,.own 1 0],[.cells b [x],.cells c [.bool g]]=>if b=45/\c=4 then(AC.as x).map λq=>⟨AC.isL q.1 q.2/\q.1<=100000,.int .i64 (BQ (AC.lst q.1 q.2) v),d3a (AC.lst q.1 q.2) (g&&decide (0<=BQ (AC.lst q.1 q.2) v)),[]⟩else none
 |_,_=>none
def FSp1:FamH:=⟨(Int×List Int)×Bool,λ((v,_),_)=>[.int .i64 v,.own 0 0,.own 1 0],λ((_,l),g)=>d3a l g,λ((_,l),_)=>l.length<=100000,λ((v,l),_)=>.int .i64 (BQ l v),λ((v,l),g)=>d3a l (g&&decide (0<=BQ l v)),[]⟩
theorem pSp1:HS 172 hSp1:=by
 refine HB {l:=[(173,b82)]} ⟨by simpa using f7v,Dm,Dm⟩ FSp1 (λ_ _=>none) hSp1 ?_ ?_ ?_ Tryz.func172 Dk Dk Dk ?_
 .intro args own r h a;unfold hSp1 at h;split at h
  .rename_i v T1 x T2 g;split at h
   .rename_i b;obtain⟨rfl,rfl⟩:=b;simp only[In]at h;obtain⟨⟨n,f⟩,hx,rfl⟩:=h;have c:=AC.as_leL hx a.1;refine⟨((v,AC.lst n f),g),⟨Dt,Dt,Dt,Im⟩,rfl,⟨⟨Ea,c,Im⟩,⟨Ea,Dq,Im⟩,Im⟩,by show (AC.lst n f).length<=100000;rw[RT.lst_length];exact a.2,rfl,rfl,rfl⟩
   .cases h
  .cases h
 .exact Bv
 .intro i;show 2<=2;decide
 .rintro⟨⟨v,l⟩,g⟩ μ a;replace a:l.length<=100000:=a;refine X0 _ ?_;(repeat' first|constructor|intro h)<;>refine Lm ?_
  all_goals(try simp only[RT.lst_row]at*)
  all_goals(first
   |exact⟨RT.isL_row AC _,a⟩
   |exact A2
   |skip)
theorem II{α:Type}{L:List α}{i:Nat}{d:α}(h:i<L.length):L.take (i+1)=L.take i++[L.getD i d]:=by rw[La];simp[h]
theorem d5s{α:Type}{R:RT α}{L:List α}{i:Nat}{c:List SV}(h:i<L.length)(a:c=R.sv (L.getD i R.d)):∀j,j<i+1->(if j<i then R.row (L.take i) j else(List.map (λx:Nat×List SV=>x.snd) [(0,c)].reverse).getD (j-i) [])=R.row (L.take (i+1)) j:=by have e:(L.take i).length=i:=Fj;have:=Ud (R:=R) (l:=L.take i) (x:=L.getD i R.d) a;rwa[<-II h,e]at this
def EZ(d:Int)(x:Pa):Int:=if d=0 then x.a else x.b
def NB(s:Sm)(d:Int)(l:List Int):List Int:=s.ps.map λx=>BQ l (EZ d x)
def OP(l:List Int)(x:Lo):Pa:=⟨min (BQ l x.a) (BQ l x.b),max (BQ l x.a) (BQ l x.b)⟩
def Gl(d:Int)(L:List Lo):List Lo:=L.filter λx=>decide (x.s=d)
def RO(s:Sm)(d:Int)(l:List Int):List Pa:=(Gl d s.ls).map (OP l)
def TE(d:Int)(l:List Int)(P:List Pa):Bool:=P.all λx=>decide (0<=BQ l (EZ d x))
def SZ(l:List Int)(L:List Lo):Bool:=L.all λx=>decide (0<=BQ l x.a)&&decide (0<=BQ l x.b)
def spG(s:Sm)(d:Int)(l:List Int):Bool:=TE d l s.ps&&SZ l (Gl d s.ls)
theorem d4u{d:Int}{l:List Int}{P:List Pa}{i:Nat}(h:i<P.length):TE d l (P.take (i+1))=(TE d l (P.take i)&&decide (0<=BQ l (EZ d (P.getD i BV.d)))):=by rw[II (d:=BV.d) h];simp[TE]
theorem c3b{d:Int}{L:List Lo}{i:Nat}(h:i<L.length)(a:(L.getD i BR.d).s=d):Gl d (L.take (i+1))=Gl d (L.take i)++[L.getD i BR.d]:=by rw[II (d:=BR.d) h];unfold Gl;rw[List.filter_append];generalize L.getD i BR.d=x at*;simp[a]
theorem d64{d:Int}{L:List Lo}{i:Nat}(h:i<L.length)(a:(L.getD i BR.d).s≠d):Gl d (L.take (i+1))=Gl d (L.take i):=by rw[II (d:=BR.d) h];unfold Gl;rw[List.filter_append];generalize L.getD i BR.d=x at*;simp[a]
theorem d6p{l:List Int}{L:List Lo}{x:Lo}:SZ l (L++[x])=(SZ l L&&decide (0<=BQ l x.a)&&decide (0<=BQ l x.b)):=by simp[SZ,Bool.and_assoc]
theorem f5y{s:Sm}{d:Int}{l:List Int}{i:Nat}(h:i<s.ps.length):(NB s d l).getD i AC.d=BQ l (EZ d (s.ps.getD i BV.d)):=by simp[NB,h]
theorem Ri{s:Sm}{d:Int}{l:List Int}:(NB s d l).length=s.ps.length:=by simp[NB]
theorem spRow{L:List Lo}{d:Int}{l:List Int}{i:Nat}{c:List SV}(h:i<L.length)(a:(L.getD i BR.d).s=d)(b:c=BV.sv (OP l (L.getD i BR.d))):∀j,j<(Gl d (L.take i)).length+1->(if j<(Gl d (L.take i)).length then BV.row ((Gl d (L.take i)).map (OP l)) j else(List.map (λx:Nat×List SV=>x.snd) [(0,c)].reverse).getD (j-(Gl d (L.take i)).length) [])=BV.row ((Gl d (L.take (i+1))).map (OP l)) j:=by have:=Ud (R:=BV) (l:=(Gl d (L.take i)).map (OP l)) (x:=OP l (L.getD i BR.d)) b;rw[c3b h a,L5];rwa[Jp]at this
theorem f14{d:Int}{L:List Lo}{i:Nat}:(Gl d (L.take i)).length<=L.length:=by unfold Gl;exact Ke (Ma _ _) Fj
def f27(s:Sm)(d:Int)(l:List Int):SV:=.tup [.sl 2 (RO s d l).length (BV.row (RO s d l)) none,.sl 1 (NB s d l).length (AC.row (NB s d l)) none,.bool (spG s d l)]
def spIn(s:Sm)(d:Int)(l:List Int):Prop:=(s.ps.length<=100000/\s.ls.length<=100000)/\l.length<=100000/\(d=0\/d=1)
def c71:AK
 | [x,.int .u8 d,y]=>match asSm x,AC.as y with
   |some q,some u=>some (q.1/\AC.isL u.1 u.2/\spIn q.2 d (AC.lst u.1 u.2),f27 q.2 d (AC.lst u.1 u.2))
   |_,_=>none
 |_=>none
def FSpans:Fam:=⟨Sm×Int×List Int,λ(s,d,l)=>[.agg (JQ s),.int .u8 d,.sl 1 l.length (AC.row l) none],λ(s,d,l)=>spIn s d l,λ(s,d,l)=>f27 s d l⟩
def spOwn(s:Sm)(l:List Int)(g:Bool)(a:List Blk):List Blk:=.cells 161 (JQ s)::.cells 45 [.sl 1 l.length (AC.row l) none]::.cells 4 [.bool g]::a
def ISpans:Sm×Int×List Int->Nat->Option Inv
 |(s,d,l),4=>some {β:=Nat,ok:=λi=>i<=s.ps.length,st:=λi=>⟨[⟨20,none,.int .i64 i⟩,⟨19,none,.int .i64 s.ps.length⟩,⟨18,none,.sl 2 s.ps.length (BV.row s.ps) none⟩,⟨9,none,.clo 172 [.own 1 0,.own 2 0]⟩,⟨8,none,.own 2 0⟩,⟨7,none,.osl 3⟩,⟨6,none,.con (.slice none 0 0)⟩,⟨3,none,.own 0 0⟩,⟨1,none,.int .u8 d⟩],spOwn s l (TE d l (s.ps.take i)) [.row 3 1 i (AC.row ((NB s d l).take i)) none]⟩,μ:=λi=>s.ps.length-i,nl:=[.slot 7 3 1]}
 |(s,d,l),9=>some {β:=Nat,ok:=λi=>i<=s.ls.length,st:=λi=>⟨[⟨40,none,.int .i64 i⟩,⟨39,none,.int .i64 s.ls.length⟩,⟨38,none,.sl 3 s.ls.length (BR.row s.ls) none⟩,⟨9,none,.clo 172 [.own 1 0,.own 2 0]⟩,⟨8,none,.own 2 0⟩,⟨7,none,.osl 3⟩,⟨6,none,.osl 4⟩,⟨1,none,.int .u8 d⟩],spOwn s l (TE d l s.ps&&SZ l (Gl d (s.ls.take i))) [.row 3 1 (NB s d l).length (AC.row (NB s d l)) none,.row 195 2 (Gl d (s.ls.take i)).length (BV.row ((Gl d (s.ls.take i)).map (OP l))) none]⟩,μ:=λi=>s.ls.length-i,nl:=[.slot 6 195 2]}
 |_,_=>none
theorem pSpans:PS 120 c71:=by
 refine NH {h:=[(172,hSp1)],c2:=true} ⟨Dm,Dm,by simpa using pSp1⟩ FSpans ISpans c71 ?_ ?_ Tryz.func120 Dk Dk Dk ?_
 .intro args pre s h f;unfold c71 at h;split at h
  .rename_i x d y;split at h
   .rename_i q u k m;cases h;exact⟨(q.2,d,AC.lst u.1 u.2),⟨d4f k f.1,Dt,IX (AC.as_leL m f.2.1),Im⟩,f.2.2,rfl⟩
   .cases h
  .cases h
 .exact Bv
 .rintro⟨s,d,l⟩ ⟨⟨c9,c8⟩,g,b⟩;rcases b with rfl|rfl;all_goals
   all_goals refine X0 _ ?_;(repeat' first|constructor|intro h)<;>refine Lm ?_
   refine⟨(0:Nat),Ix _,?_,?_⟩
   .exact X1a
   .intro i e;replace e:i<=s.ps.length:=e;refine X0 _ ?_;(repeat' first|constructor|intro h)<;>refine Lm ?_
    all_goals(try simp only[Hv,RT.lst_row]at*)
    all_goals(try first
     |omega
     |exact⟨RT.isL_row AC _,g⟩
     |exact Aa
     |exact A4)
    .have a:i<s.ps.length:=Dj;refine⟨i+1,Dj,Dj,?_⟩;simp only[d4u a];refine X0 _ ?_;(repeat' first|constructor|intro h)<;>refine Lm ?_
     all_goals(first
      |exact An
      |exact d5s (by rw[Ri];exact a) (by rw[f5y a];rfl)
      |skip)
    .have a:i=s.ps.length:=Dj;subst a;refine⟨(0:Nat),Ix _,?_,?_⟩
     .simp only[Kj,List.take_zero];refine X0 _ ?_;(repeat' first|constructor|intro h)<;>refine Lm ?_
      all_goals(first
       |exact A2
       |exact Ri.symm
       |exact Ai
       |(simp[SZ,Gl];done)
       |(intro j _;rw[Kh (by rw[Ri];exact Ir _)];done)
       |skip)
     .intro i e;replace e:i<=s.ls.length:=e;refine X0 _ ?_;(repeat' first|constructor|intro h)<;>refine Lm ?_
      all_goals(try simp only[Hv,RT.lst_row]at*)
      all_goals(try first
       |omega
       |exact⟨RT.isL_row AC _,g⟩
       |exact Aa
       |(have:=@f14 0 s.ls i;refine⟨Dj,?_⟩;exact LC Dk Dj)
       |(have:=@f14 1 s.ls i;refine⟨Dj,?_⟩;exact LC Dk Dj)
       |exact A4
       |exact λ_ _=>Im)
      .have b:=h;have a:i<s.ls.length:=Dj;refine⟨i+1,Dj,Dj,?_⟩;simp only[c3b a b,d6p,I8,<-Bool.and_assoc];refine X0 _ ?_;(repeat' first|constructor|intro h)<;>refine Lm ?_
       all_goals(first
        |exact An
        |(rw[<-c3b a b];exact spRow a b rfl)
        |skip)
      .have b:=h;have a:i<s.ls.length:=Dj;refine⟨i+1,Dj,Dj,?_⟩;simp only[d64 a b];refine X0 _ ?_;(repeat' first|constructor|intro h)<;>refine Lm ?_
       all_goals(first
        |exact An
        |skip)
      all_goals
       have a:i=s.ls.length:=Dj;subst a;simp only[Kj];first
        |exact A2
        |(unfold RO;rw[List.length_map];done)
        |skip
def QE(s:Int):Bool:=decide (1<s)
def d8d:AK
 | [.agg [.int .u8 s,.int .i64 _,.int .i64 _]]=>some (True,.bool (QE s))
 |_=>none
def FCrs1:Fam:=⟨Int×Int×Int,λ(s,a,b)=>[.agg [.int .u8 s,.int .i64 a,.int .i64 b]],λ_=>True,λ(s,_,_)=>.bool (QE s)⟩
theorem pCrs1:PS 122 d8d:=by
 refine con [] Dm FCrs1 (λ_ _=>none) d8d ?_ ?_ Tryz.func122 Dk Dk Dk ?_
 .intro args pre s h hp;unfold d8d at h;split at h
  .rename_i s a b;cases h;exact⟨(s,a,b),⟨Dz,Im⟩,Im,rfl⟩
  .cases h
 .exact Bu
 .rintro⟨s,a,b⟩ _;refine X0 _ ?_;(repeat' first|constructor|intro h)<;>refine Lm ?_
  all_goals first|rfl|skip
def c5c:AK
 | [x,.clo g []]=>if g=122 then(BR.as x).map λq=>(BR.isL q.1 q.2/\q.1<=100000,.int .i64 (NS QE ((BR.lst q.1 q.2).map (·.s))))else none
 |_=>none
def f0n:Fam:=⟨List Lo,λl=>[.sl 3 l.length (BR.row l) none,.clo 122 []],λl=>l.length<=100000,λl=>.int .i64 (NS QE (l.map (·.s)))⟩
def IIdxFL:List Lo->Nat->Option Inv
 |l,2=>some {β:=Nat,ok:=λi=>i<=l.length/\∀j,j<i->QE ((l.map (·.s)).getD j 0)=false,st:=λi=>⟨[⟨8,none,.int .i64 i⟩,⟨7,none,.int .i64 l.length⟩,⟨1,none,.clo 122 []⟩,⟨0,none,.sl 3 l.length (BR.row l) none⟩],[]⟩,μ:=λi=>l.length-i}
 |_,_=>none
theorem d9a(l:List Lo)(i:Nat):(l.map (·.s)).getD i 0=(l.getD i BR.d).s:=by simp only[If,Jb];cases l[i]?<;>rfl
theorem pIdxFL:PS 174 c5c:=by
 refine con [(122,d8d)] (by simpa using pCrs1) f0n IIdxFL c5c ?_ ?_ Tryz.func174 Dk Dk Dk ?_
 .intro args pre s h a;unfold c5c at h;split at h
  .split at h
   .rename_i d;subst d;simp only[Hx]at h;obtain⟨⟨n,f⟩,hx,rfl,rfl⟩:=h;exact⟨BR.lst n f,⟨IX (BR.as_leL hx a.1),⟨rfl,rfl⟩,Im⟩,by simp only[f0n,RT.lst_length];exact a.2,rfl⟩
   .cases h
  .cases h
 .exact Bt
 .intro(l:List Lo) a;replace a:l.length<=100000:=a;refine X0 _ ?_;(repeat' first|constructor|intro h)<;>refine Lm ?_
  refine⟨(0:Nat),⟨Ix _,λj hj=>Dj⟩,?_,?_⟩
  .exact X0c
  .intro i g;obtain⟨dq,br⟩:=g;have c:=d9a l i;have hml:(l.map (·.s)).length=l.length:=Jp ..;refine X0 _ ?_;(repeat' first|constructor|intro h)<;>refine Lm ?_
   all_goals(try simp only[Hv]at*)
   all_goals(first
    |exact Ap
    |rfl
    |exact Im
    |exact(b8h Dj br (by rw[c];assumption)).symm
    |(refine⟨i+1,⟨Dj,λj hj=> ?_⟩,Dy,?_⟩)
    |exact Bi
    |skip)
   .by_cases e:j<i
    .exact br j e
    .have:j=i:=Dj;subst this;rw[c];assumption
   .exact X0d
def c5s:AK
 | [x,.clo g []]=>if g=122 then(BR.as x).map λq=>(BR.isL q.1 q.2/\q.1<=100000,.bool (((BR.lst q.1 q.2).map (·.s)).any QE))else none
 |_=>none
def f1c:Fam:=⟨List Lo,λl=>[.sl 3 l.length (BR.row l) none,.clo 122 []],λl=>l.length<=100000,λl=>.bool ((l.map (·.s)).any QE)⟩
theorem pCntFL:PS 121 c5s:=by
 refine con [(174,c5c)] (by simpa using pIdxFL) f1c (λ_ _=>none) c5s ?_ ?_ Tryz.func121 Dk Dk Dk ?_
 .intro args pre s h a;unfold c5s at h;split at h
  .split at h
   .rename_i b;subst b;simp only[Hx]at h;obtain⟨⟨n,f⟩,hx,rfl,rfl⟩:=h;exact⟨BR.lst n f,⟨IX (BR.as_leL hx a.1),⟨rfl,rfl⟩,Im⟩,by simp only[f1c,RT.lst_length];exact a.2,rfl⟩
   .cases h
  .cases h
 .exact Bt
 .intro(l:List Lo) a;replace a:l.length<=100000:=a;refine X0 _ ?_;(repeat' first|constructor|intro h)<;>refine Lm ?_
  all_goals(try simp only[RT.lst_row]at*)
  all_goals(first
   |exact⟨BR.isL_row l,a⟩
   |exact b7g _ _
   |skip)
def Oy(x:Pa)(h:Int):Bool:=decide (h>x.a)&&decide (h<x.b)
def PX(x y:Pa):Bool:=(decide (x.a<y.a)&&decide (y.a<x.b)&&decide (x.b<y.b))||(decide (y.a<x.a)&&decide (x.a<y.b)&&decide (y.b<x.b))
def QB(L:List Pa)(P:List Int)(i:Nat):Bool:=P.any (Oy (L.getD i BV.d))||(List.range i).any λj=>PX (L.getD i BV.d) (L.getD j BV.d)
def JA(L:List Pa)(P:List Int):Bool:=(List.range L.length).any (QB L P)
def crC(s:Sm):Nat->Cl
 |0=>s.a
 |_=>s.b
def EA(s:Sm)(K:List Stk)(d:Nat):List Pa:=RO s d (AX K (crC s d))
def DE(s:Sm)(K:List Stk)(d:Nat):List Int:=NB s d (AX K (crC s d))
def Pk(s:Sm)(K:List Stk)(d:Nat):Bool:=spG s d (AX K (crC s d))
def Nx(s:Sm)(K:List Stk):Nat->Bool
 |0=>false
 |1=>JA (EA s K 0) (DE s K 0)
 |_=>JA (EA s K 0) (DE s K 0)||JA (EA s K 1) (DE s K 1)
def QK(s:Sm):Bool:=(s.ls.map (·.s)).any QE
def UM(A B:List Int)(i k:Nat):Bool:=decide (CJ (A.getD i AC.d) (A.getD k AC.d)*CJ (B.getD i AC.d) (B.getD k AC.d)<0)
def PJ(A B:List Int)(i:Nat):Bool:=(List.range i).any λa=>(List.range a).any (UM A B a)
def ME(s:Sm)(K:List Stk):Int:=
 if(!Pk s K 0||QK s)=true then 1 else if(!Pk s K 1||QK s)=true then 1
 else if(Nx s K 2||PJ (DE s K 0) (DE s K 1) s.ps.length)=true then 12 else 0
theorem crE_1{s:Sm}{K:List Stk}(a:(!Pk s K 0||QK s)=false)(h:(!Pk s K 1||QK s)=true):1=ME s K:=by unfold ME;rw[if_neg (by rw[a];decide),if_pos h]
theorem crE_2{s:Sm}{K:List Stk}(a:(!Pk s K 0||QK s)=false)(b:(!Pk s K 1||QK s)=false):ME s K=if(Nx s K 2||PJ (DE s K 0) (DE s K 1) s.ps.length)=true then 12 else 0:=by unfold ME;rw[if_neg (by rw[a];decide),if_neg (by rw[b];decide)]
theorem Uh(s:Sm)(K:List Stk)(b:Bool):∀i,i<2->JA (EA s K i) (DE s K i)=b->Nx s K (i+1)=(Nx s K i||b)
 |0,_,e=>by rw[<-e];rfl
 |1,_,e=>by rw[<-e];rfl
 |_+2,h,_=>Dj
theorem f1i{s:Sm}{d:Int}{l:List Int}:(RO s d l).length<=s.ls.length:=by unfold RO Gl;rw[Jp];exact Ma _ _
theorem c60{L:List Pa}{P:List Int}(h:∀j,j<L.length->QB L P j=false):JA L P=false:=by unfold JA;rw[J5];intro j a;rw[h j (Jk.1 a)];decide
theorem d24{L:List Pa}{P:List Int}{k:Nat}(a:k<L.length)(h:QB L P k=true):JA L P=true:=J3.2 ⟨k,Jk.2 a,h⟩
theorem d4y{L:List Pa}{P:List Int}{k m:Nat}(b:k<L.length)(a:m<P.length)(h:Oy (L.getD k BV.d) (P.getD m AC.d)=true):JA L P=true:=d24 b (by unfold QB;rw[Jn];refine .inl (J3.2 ⟨P.getD m AC.d,?_,h⟩);rw[If,Ig a];exact Ji a)
theorem c6e{P:List Int}{x:Pa}(h:∀j,j<P.length->Oy x (P.getD j AC.d)=false):P.any (Oy x)=false:=by rw[J5];intro v b;obtain⟨j,a,rfl⟩:=Jg.1 b;have:=h j a;rw[If,Ig a]at this;simp only[K2]at this;rw[this];decide
theorem d44{L:List Pa}{P:List Int}{k m:Nat}(a:k<L.length)(b:m<k)(h:PX (L.getD k BV.d) (L.getD m BV.d)=true):JA L P=true:=d24 a (by unfold QB;rw[Jn];exact .inr (J3.2 ⟨m,Jk.2 b,h⟩))
theorem c1h{L:List Pa}{P:List Int}{k:Nat}(a:P.any (Oy (L.getD k BV.d))=false)(b:∀j,j<k->PX (L.getD k BV.d) (L.getD j BV.d)=false):QB L P k=false:=by unfold QB;rw[a,Mc,J5];intro j c;rw[b j (Jk.1 c)];decide
theorem d1y{f:Nat->Bool}{q:Nat}(h:f q=true):(List.range (q+1)).any f=true:=J3.2 ⟨q,Jk.2 (Nat.lt_succ_self q),h⟩
theorem c7i{f:Nat->Bool}{q:Nat}(h:f q=false):(List.range (q+1)).any f=(List.range q).any f:=by simp[List.range_succ,h]
theorem d6v(A B:List Int)(k:Nat):PJ A B (k+1)=(PJ A B k||(List.range k).any (UM A B k)):=by simp[PJ,List.range_succ]
theorem b6q(a b:Int):CJ a b= -1\/CJ a b=0\/CJ a b=1:=by
 unfold CJ;split
 .exact .inl rfl
 .split
  .exact .inr (.inr rfl)
  .exact .inr (.inl rfl)
theorem f2d(a b c d:Int):AD .i64 (CJ a b*CJ c d):=by rcases b6q a b with e|e|e<;>rcases b6q c d with f|f|f<;>(rw[e,f];simp only[AD];omega)
def crIn(s:Sm)(K:List Stk):Prop:=(s.ps.length<=100000/\s.ls.length<=100000)/\FH K/\(∀c,(AX K c).length<=100000)
def nilV:SV:=.con (.slice none 0 0)
def Sr(s:Sm)(K:List Stk)(d:Nat):SV:=.sl 1 (DE s K d).length (AC.row (DE s K d)) none
def paS(s:Sm)(K:List Stk):Nat->List SV
 |0=>[nilV,nilV]
 |1=>[Sr s K 0,nilV]
 |_=>[Sr s K 0,Sr s K 1]
def Xs(s:Sm)(K:List Stk)(i:Nat)(c:List Blk):List Blk:=.cells 161 (JQ s)::.cells 210 (paS s K i)::.row 47 3 2 (CO.row [s.a,s.b]) none::c
def Um(s:Sm)(K:List Stk)(d:Nat):Bool:= !Pk s K d||QK s
def SF(s:Sm)(K:List Stk)(d n:Nat):SV:=.sl 2 n (BV.row (EA s K d)) none
abbrev Qd(s:Sm)(K:List Stk)(d k:Nat):Pa:=(EA s K d).getD k BV.d
def paC(x:Pa):Blk:=.cells 195 [.int .i64 x.a,.int .i64 x.b]
def ICr:Sm×List Stk->Nat->Option Inv
 |(s,K),4=>some {β:=Nat,ok:=λi=>i<=2/\(1<=i->Um s K 0=false)/\(2<=i->Um s K 1=false),st:=λi=>⟨[⟨27,none,.int .i64 i⟩,⟨26,none,.int .i64 2⟩,⟨25,none,.osl 2⟩,⟨6,none,.bool (Nx s K i)⟩,⟨5,none,.own 1 0⟩,⟨2,none,.own 0 0⟩,⟨1,none,Eo K⟩],Xs s K i []⟩,μ:=λi=>2-i,sub:=λi=>some fun
  |12=>some {β:=Nat,ok:=λk=>k<=(EA s K i).length/\∀j,j<k->QB (EA s K i) (DE s K i) j=false,st:=λk=>⟨[⟨56,none,.int .i64 k⟩,⟨55,none,.int .i64 (EA s K i).length⟩,⟨54,none,SF s K i (EA s K i).length⟩,⟨11,none,Sr s K i⟩,⟨10,none,SF s K i (EA s K i).length⟩,⟨27,none,.int .i64 i⟩,⟨26,none,.int .i64 2⟩,⟨25,none,.osl 2⟩,⟨6,none,.bool (Nx s K i)⟩,⟨5,none,.own 1 0⟩,⟨2,none,.own 0 0⟩,⟨1,none,Eo K⟩],Xs s K (i+1) []⟩,μ:=λk=>(EA s K i).length-k,sub:=λk=>some fun
   |15=>some {β:=Nat,ok:=λm=>m<=(DE s K i).length/\∀j,j<m->Oy (Qd s K i k) ((DE s K i).getD j AC.d)=false,st:=λm=>⟨[⟨63,none,.int .i64 m⟩,⟨62,none,.int .i64 (DE s K i).length⟩,⟨61,none,Sr s K i⟩,⟨14,none,.own 3 0⟩,⟨13,none,.int .i64 k⟩,⟨56,none,.int .i64 k⟩,⟨55,none,.int .i64 (EA s K i).length⟩,⟨54,none,SF s K i (EA s K i).length⟩,⟨11,none,Sr s K i⟩,⟨10,none,SF s K i (EA s K i).length⟩,⟨27,none,.int .i64 i⟩,⟨26,none,.int .i64 2⟩,⟨25,none,.osl 2⟩,⟨6,none,.bool (Nx s K i)⟩,⟨5,none,.own 1 0⟩,⟨2,none,.own 0 0⟩,⟨1,none,Eo K⟩],Xs s K (i+1) [paC (Qd s K i k)]⟩,μ:=λm=>(DE s K i).length-m}
   |21=>some {β:=Nat,ok:=λm=>m<=k/\(DE s K i).any (Oy (Qd s K i k))=false/\∀j,j<m->PX (Qd s K i k) (Qd s K i j)=false,st:=λm=>⟨[⟨82,none,.int .i64 m⟩,⟨81,none,.int .i64 k⟩,⟨80,none,SF s K i k⟩,⟨14,none,.own 3 0⟩,⟨56,none,.int .i64 k⟩,⟨55,none,.int .i64 (EA s K i).length⟩,⟨54,none,SF s K i (EA s K i).length⟩,⟨11,none,Sr s K i⟩,⟨10,none,SF s K i (EA s K i).length⟩,⟨27,none,.int .i64 i⟩,⟨26,none,.int .i64 2⟩,⟨25,none,.osl 2⟩,⟨6,none,.bool (Nx s K i)⟩,⟨5,none,.own 1 0⟩,⟨2,none,.own 0 0⟩,⟨1,none,Eo K⟩],Xs s K (i+1) [paC (Qd s K i k)]⟩,μ:=λm=>k-m}
   |_=>none}
  |_=>none}
 |(s,K),29=>some {β:=Nat,ok:=λi=>i<=s.ps.length,st:=λi=>⟨[⟨132,none,.int .i64 i⟩,⟨131,none,.int .i64 s.ps.length⟩,⟨6,none,.bool (Nx s K 2||PJ (DE s K 0) (DE s K 1) i)⟩,⟨5,none,.own 1 0⟩],[.cells 161 (JQ s),.cells 210 (paS s K 2)]⟩,μ:=λi=>s.ps.length-i,sub:=λi=>some fun
  |32=>some {β:=Nat,ok:=λk=>k<=i,st:=λk=>⟨[⟨136,none,.int .i64 k⟩,⟨135,none,.int .i64 i⟩,⟨19,none,.int .i64 i⟩,⟨132,none,.int .i64 i⟩,⟨131,none,.int .i64 s.ps.length⟩,⟨6,none,.bool (Nx s K 2||PJ (DE s K 0) (DE s K 1) i||(List.range k).any (UM (DE s K 0) (DE s K 1) i))⟩,⟨5,none,.own 1 0⟩],[.cells 161 (JQ s),.cells 210 (paS s K 2)]⟩,μ:=λk=>i-k}
  |_=>none}
 |_,_=>none
def FCr:Fam:=⟨Sm×List Stk,λ(s,K)=>[.agg (JQ s),Eo K],λ(s,K)=>crIn s K,λ(s,K)=>.int .i64 (ME s K)⟩
def YA:AK
 | [x,y]=>match asSm x,KD y with
   |some q,some u=>some (q.1/\u.1/\crIn q.2 u.2,.int .i64 (ME q.2 u.2))
   |_,_=>none
 |_=>none
theorem d55:PS 81 YA:=by
 refine con [(119,d7e),(120,c71),(121,c5s),(123,SL)] (by simpa using⟨pStAt,pSpans,pCntFL,pCmp⟩) FCr ICr YA ?_ ?_ Tryz.func81 Dk Dk Dk ?_
 .intro args pre s h w;unfold YA at h;split at h
  .rename_i x y;split at h
   .rename_i q u E F;cases h;exact⟨(q.2,u.2),⟨d4f E w.1,(Oe F w.2.1).1,Im⟩,w.2.2,rfl⟩
   .cases h
  .cases h
 .exact Bt
 .rintro⟨s,K⟩ ⟨⟨c9,c8⟩,gb,sj⟩;refine X0 _ ?_;(repeat' first|constructor|intro h)<;>refine Lm ?_
  refine⟨(0:Nat),⟨Dn,λh=>absurd h Dn,λh=>absurd h Dn⟩,?_,?_⟩
  .refine X0 _ ?_;(repeat' first|constructor|intro h)<;>refine Lm ?_
   all_goals first|exact A2|(intro j b;rcases(show j=0\/j=1 from Dj)with rfl|rfl<;>rfl)|skip
  .intro i d;obtain⟨d,dq,C⟩:=d;replace d:i<=2:=d;rcases(show i=0\/i=1\/i=2 from Dj)with rfl|rfl|rfl
   .refine X0 _ ?_;(repeat' first|constructor|intro h)<;>refine Lm ?_
    all_goals(try simp only[Hv,RT.lst_row]at*)
    all_goals(try first
     |exact Ah)
    have z:(DE s K 0).length=s.ps.length:=Ri;have G:(EA s K 0).length<=s.ls.length:=f1i;have c:(1<=1->Um s K 0=false)/\(2<=1->Um s K 1=false):=⟨λ_=>h,λe=>absurd e Dn⟩
    refine⟨(0:Nat),⟨Ix _,λj b=>absurd b (Ja _)⟩,?_,?_⟩
    .exact X1b
    .intro k g;obtain⟨H,n⟩:=g;refine X0 _ ?_;(repeat' first|constructor|intro h)<;>refine Lm ?_
     all_goals(try simp only[Hv]at*)
     all_goals(try first
      |exact Ap)
     .have o:k<(EA s K 0).length:=Dj;refine⟨(0:Nat),⟨Ix _,λj b=>absurd b (Ja _)⟩,?_,?_⟩
      .exact X1b
      .intro m A;obtain⟨I,r⟩:=A;refine X0 _ ?_;(repeat' first|constructor|intro h)<;>refine Lm ?_
       all_goals(try simp only[Hv]at*)
       all_goals(try first
        |exact Ap
        |exact⟨Dk,Dj,Dj,Dj⟩)
       .have hs:JA (EA s K 0) (DE s K 0)=true:=d4y (m:=m) o Dj (by unfold Oy;assumption);refine⟨(1:Nat),⟨Dn,c.1,c.2⟩,Dn,?_⟩;exact X1c
       .refine⟨m+1,⟨Dj,λj b=> ?_⟩,by show _-(m+1)<_-m;omega,?_⟩
        .by_cases e:j<m
         .exact r j e
         .have:j=m:=Dj;subst this;assumption
        .exact X1d
       .have B:=c6e (x:=Qd s K 0 k) λj b=>r j Dj;refine⟨(0:Nat),⟨Ix _,B,λj b=>absurd b (Ja _)⟩,?_,?_⟩
        .refine X0 _ ?_;(repeat' first|constructor|intro h)<;>refine Lm ?_
         all_goals first|exact An|(intro j _;simp;done)|skip
        .intro q l;obtain⟨J,t,v⟩:=l;refine X0 _ ?_;(repeat' first|constructor|intro h)<;>refine Lm ?_
         all_goals(try simp only[Hv]at*)
         all_goals(try first
          |exact Ap)
         .have hs:JA (EA s K 0) (DE s K 0)=true:=d44 (m:=q) o Dj (by unfold PX;assumption);refine⟨(1:Nat),⟨Dn,c.1,c.2⟩,Dn,?_⟩;exact X1c
         .refine⟨q+1,⟨Dj,t,λj b=> ?_⟩,Gy,?_⟩
          .by_cases e:j<q
           .exact v j e
           .have:j=q:=Dj;subst this;unfold PX;assumption
          .exact X1d
         .refine⟨k+1,⟨Dj,λj b=> ?_⟩,Fi,?_⟩
          .by_cases e:j<k
           .exact n j e
           .have:j=k:=Dj;subst this;exact c1h t λi d=>v i Dj
          .exact X1d
     .have hs:JA (EA s K 0) (DE s K 0)=false:=c60 λj b=>n j Dj;refine⟨(1:Nat),⟨Dn,c.1,c.2⟩,Dn,?_⟩;refine X0 _ ?_;(repeat' first|constructor|intro h)<;>refine Lm ?_
      all_goals first|exact An|exact(Uh s K false 0 Dn hs).symm|exact((Uh s K false 0 Dn hs).trans (Lu _)).symm|skip
   .refine X0 _ ?_;(repeat' first|constructor|intro h)<;>refine Lm ?_
    all_goals(try simp only[Hv,RT.lst_row]at*)
    all_goals(try first
     |exact Ah)
    have z:(DE s K 1).length=s.ps.length:=Ri;have G:(EA s K 1).length<=s.ls.length:=f1i;have c:(1<=2->Um s K 0=false)/\(2<=2->Um s K 1=false):=⟨λ_=>dq (Ir 1),λ_=>h⟩
    refine⟨(0:Nat),⟨Ix _,λj b=>absurd b (Ja _)⟩,?_,?_⟩
    .exact X1b
    .intro k g;obtain⟨H,n⟩:=g;refine X0 _ ?_;(repeat' first|constructor|intro h)<;>refine Lm ?_
     all_goals(try simp only[Hv]at*)
     all_goals(try first
      |exact Ap)
     .have o:k<(EA s K 1).length:=Dj;refine⟨(0:Nat),⟨Ix _,λj b=>absurd b (Ja _)⟩,?_,?_⟩
      .exact X1b
      .intro m A;obtain⟨I,r⟩:=A;refine X0 _ ?_;(repeat' first|constructor|intro h)<;>refine Lm ?_
       all_goals(try simp only[Hv]at*)
       all_goals(try first
        |exact Ap
        |exact⟨Dk,Dj,Dj,Dj⟩)
       .have hs:JA (EA s K 1) (DE s K 1)=true:=d4y (m:=m) o Dj (by unfold Oy;assumption);refine⟨(2:Nat),⟨Dn,c.1,c.2⟩,Dn,?_⟩;exact X1e
       .refine⟨m+1,⟨Dj,λj b=> ?_⟩,by show _-(m+1)<_-m;omega,?_⟩
        .by_cases e:j<m
         .exact r j e
         .have:j=m:=Dj;subst this;assumption
        .exact X1d
       .have B:=c6e (x:=Qd s K 1 k) λj b=>r j Dj;refine⟨(0:Nat),⟨Ix _,B,λj b=>absurd b (Ja _)⟩,?_,?_⟩
        .refine X0 _ ?_;(repeat' first|constructor|intro h)<;>refine Lm ?_
         all_goals first|exact An|(intro j _;simp;done)|skip
        .intro q l;obtain⟨J,t,v⟩:=l;refine X0 _ ?_;(repeat' first|constructor|intro h)<;>refine Lm ?_
         all_goals(try simp only[Hv]at*)
         all_goals(try first
          |exact Ap)
         .have hs:JA (EA s K 1) (DE s K 1)=true:=d44 (m:=q) o Dj (by unfold PX;assumption);refine⟨(2:Nat),⟨Dn,c.1,c.2⟩,Dn,?_⟩;exact X1e
         .refine⟨q+1,⟨Dj,t,λj b=> ?_⟩,Gy,?_⟩
          .by_cases e:j<q
           .exact v j e
           .have:j=q:=Dj;subst this;unfold PX;assumption
          .exact X1d
         .refine⟨k+1,⟨Dj,λj b=> ?_⟩,Fi,?_⟩
          .by_cases e:j<k
           .exact n j e
           .have:j=k:=Dj;subst this;exact c1h t λi d=>v i Dj
          .exact X1d
     .have hs:JA (EA s K 1) (DE s K 1)=false:=c60 λj b=>n j Dj;refine⟨(2:Nat),⟨Dn,c.1,c.2⟩,Dn,?_⟩;refine X0 _ ?_;(repeat' first|constructor|intro h)<;>refine Lm ?_
      all_goals first|exact An|exact(Uh s K false 1 Dn hs).symm|exact((Uh s K false 1 Dn hs).trans (Lu _)).symm|skip
   .refine X0 _ ?_;(repeat' first|constructor|intro h)<;>refine Lm ?_
    all_goals(try simp only[]at*)
    all_goals(try omega)
    have z:(DE s K 0).length=s.ps.length:=Ri;have hPm:(DE s K 1).length=s.ps.length:=Ri;refine⟨(0:Nat),Ix _,?_,?_⟩
    .refine X0 _ ?_;(repeat' first|constructor|intro h)<;>refine Lm ?_
     all_goals first|exact A2|exact(Lu _).symm|(rw[z];done)|skip
    .intro k g;replace g:k<=s.ps.length:=g;refine X0 _ ?_;(repeat' first|constructor|intro h)<;>refine Lm ?_
     all_goals(try simp only[Hv]at*)
     .refine⟨(0:Nat),Ix _,?_,?_⟩
      .refine X0 _ ?_;(repeat' first|constructor|intro h)<;>refine Lm ?_
       all_goals first|exact A2|exact(Lu _).symm|skip
      .intro q l;replace l:q<=k:=l;refine X0 _ ?_;(repeat' first|constructor|intro h)<;>refine Lm ?_
       all_goals(try simp only[Hv]at*)
       all_goals(try first
        |exact Ap
        |exact f2d _ _ _ _
        |exact At)
       .refine⟨q+1,by show q+1<=k;omega,by show k-(q+1)<k-q;omega,?_⟩;refine X0 _ ?_;(repeat' first|constructor|intro h)<;>refine Lm ?_
        all_goals first|exact An|(have e:=d1y (f:=UM (DE s K 0) (DE s K 1) k) (q:=q) (J7 h);rw[e,Bool.or_true];done)|skip
       .refine⟨q+1,by show q+1<=k;omega,by show k-(q+1)<k-q;omega,?_⟩;refine X0 _ ?_;(repeat' first|constructor|intro h)<;>refine Lm ?_
        all_goals first|exact An|(have e:=c7i (f:=UM (DE s K 0) (DE s K 1) k) (q:=q) (J9 h);rw[e];done)|skip
       .have e:q=k:=Dj;subst e;refine⟨q+1,by show q+1<=_;omega,Gy,?_⟩;refine X0 _ ?_;(repeat' first|constructor|intro h)<;>refine Lm ?_
        all_goals first|exact An|(rw[d6v,Bool.or_assoc];done)|skip
     .have e:k=s.ps.length:=Dj;subst e;rw[crE_2 (dq Dn) (C Dn),Ih Dp]
     .have e:k=s.ps.length:=Dj;subst e;rw[crE_2 (dq Dn) (C Dn),Ii (by simp_all)]
def EF(p:Pt)(r:Mv)(L:List Stk):List SV:=[.int .i64 p.W,.int .i64 p.H,.sl 3 p.l.length (DS p.l) none,.int .u8 r.t,.int .i64 r.x,.int .i64 r.y,Eo L]
def KU:SV->Option (Prop×Pt×Mv×List Stk)
 |.agg [.int .i64 W,.int .i64 H,c,.int .u8 t,.int .i64 a,.int .i64 b,z]=>match Nr c,KD z with
  |some q,some s=>some (((ML q.1 q.2/\q.1<=100000)/\(∀x∈ED q.1 q.2,AD .u8 x.e)/\0<=t/\t<=255)/\s.1/\(∀x∈s.2,AD .u8 x.c.q)/\(CF s.2).length<=100000,⟨W,H,ED q.1 q.2⟩,⟨t,a,b⟩,s.2)
  |_,_=>none
 |_=>none
theorem c5u{x:SV}{q:Prop}{L:List Stk}(h:KD x=some (q,L))(hq:q):x.le0 (Eo L)/\FH L:=by unfold KD at h;simp only[Hx]at h;obtain⟨⟨n,f⟩,hx,rfl,rfl⟩:=h;exact⟨AA.as_leL hx hq.1,Gr,hq.2.2⟩
theorem PD{x:SV}{q:Prop}{p:Pt}{r:Mv}{L:List Stk}(h:KU x=some (q,p,r,L))(d:q):x.le2 (.agg (EF p r L))/\EL p r/\FK L:=by
 unfold KU at h;split at h
 .rename_i W H c t a b z;split at h
  .rename_i u v e f;cases h;obtain⟨⟨⟨g,i⟩,j,k,l⟩,m,n,o⟩:=d;obtain⟨s,w⟩:=c5u f m;refine⟨?_,⟨⟨by simp only[RE];exact i,j⟩,k,l⟩,w,n,o⟩;refine⟨Dq,Dq,Qz e g,Dq,Dq,Dq,s,Im⟩
  .cases h
 .cases h
def QN(p:Pt)(r:Mv)(L:List Stk)(u:List Bool)(S:List Sm):List SV:=EF p r L++[.sl 1 u.length (FX.row u) none,.sl 9 S.length (FI.row S) none]
def zP(e:Int)(p:Pt):Pt:=if e=0 then p else⟨0,0,[]⟩
def zR(e:Int)(r:Mv):Mv:=if e=0 then r else⟨0,0,0⟩
def zL{α:Type}(e:Int)(L:List α):List α:=if e=0 then L else []
def rLook(p:Pt)(r:Mv)(L:List Stk):SV:=.tup [.agg (QN (zP (DP p r L) p) (zR (DP p r L) r) (zL (DP p r L) L) (zL (DP p r L) (FW p r)) (zL (DP p r L) (FN p r L))),.int .i64 (DP p r L)]
def d78:AK
 | [x]=>(KU x).map λq=>(q.1,rLook q.2.1 q.2.2.1 q.2.2.2)
 |_=>none
def FLook:Fam:=⟨Pt×Mv×List Stk,λ(p,r,L)=>[.agg (EF p r L)],λ(p,r,L)=>EL p r/\FK L,λ(p,r,L)=>rLook p r L⟩
theorem pLook:PS 38 d78:=by
 refine con [(80,d63),(60,kUp)] (by simpa using⟨pSeOf,pUp⟩) FLook (λ_ _=>none) d78 ?_ ?_ Tryz.func38 Dk Dk Dk ?_
 .intro args pre s h a;unfold d78 at h;split at h
  .simp only[Hx]at h;obtain⟨⟨q,p,r,L⟩,hx,rfl,rfl⟩:=h;obtain⟨b,c,d⟩:=PD hx a;exact⟨(p,r,L),⟨b,Im⟩,⟨c,d⟩,rfl⟩
  .cases h
 .exact Bu
 .rintro⟨p,r,L⟩ ⟨c9,c8⟩;refine X0 _ ?_;(repeat' first|constructor|intro h)<;>refine Lm ?_
  all_goals(try simp only[CL,RT.lst_row]at*)
  all_goals(first
   |exact B1
   |(have e:DP p r L=0:=by simpa using h
     first
      |(simp[zP,zR,zL,e];done)
      |(show CE p r=_;rw[(b8r e).1,e];done))
   |(have e:¬DP p r L=0:=by simpa using h
     simp[zP,zR,zL,e];done)
   |skip)
def WK:SV->Option (Prop×Pt×Mv×List Stk×List Bool×List Sm)
 |.agg [.int .i64 W,.int .i64 H,c,.int .u8 t,.int .i64 a,.int .i64 b,z,u,s]=>match Nr c,KD z,FX.as u,FI.as s with
  |some q,some v,some x,some y=>some ((ML q.1 q.2/\q.1<=100000)/\v.1/\(FX.isL x.1 x.2/\x.1<=100000)/\(FI.isL y.1 y.2/\y.1<=100000),⟨W,H,ED q.1 q.2⟩,⟨t,a,b⟩,v.2,FX.lst x.1 x.2,FI.lst y.1 y.2)
  |_,_,_,_=>none
 |_=>none
def Tl(p:Pt)(L:List Stk)(u:List Bool)(S:List Sm):Prop:=p.l.length<=100000/\FH L/\u.length<=100000/\S.length<=100000
theorem c3e{x:SV}{q:Prop}{p:Pt}{r:Mv}{L:List Stk}{u:List Bool}{S:List Sm}(h:WK x=some (q,p,r,L,u,S))(f:q):x.le2 (.agg (QN p r L u S))/\Tl p L u S:=by
 unfold WK at h;split at h
 .rename_i W H c t a b z u' s';split at h
  .rename_i g i j k;cases h;obtain⟨q1,l,d,e⟩:=f;obtain⟨m,n⟩:=c5u i l;exact⟨⟨Dq,Dq,Qz g q1.1,Dq,Dq,Dq,m,FX.as_leL j d.1,FI.as_leL k e.1,Im⟩,Gs,n,by rw[RT.lst_length];exact d.2,by rw[RT.lst_length];exact e.2⟩
  .cases h
 .cases h
def My(L:List Stk)(S:List Sm):Int:=if(S.any λs=> !decide (ME s L=0))=true then 12 else 0
def f2b(S:List Sm):Prop:=∀s∈S,s.ps.length<=100000/\s.ls.length<=100000
theorem f4m{L:List Stk}(h:FH L)(c:Cl):(AX L c).length<=100000:=by
 unfold AX;split
 .rename_i s hs;exact h.2 s (List.mem_of_find?_eq_some hs)
 .exact Ix _
def b17:AK
 | [x]=>(WK x).map λq=>(q.1/\f2b q.2.2.2.2.2,.int .i64 (My q.2.2.2.1 q.2.2.2.2.2))
 |_=>none
def c7y:Fam:=⟨Pt×Mv×List Stk×List Bool×List Sm,λ(p,r,L,u,S)=>[.agg (QN p r L u S)],λ(p,_,L,u,S)=>Tl p L u S/\f2b S,λ(_,_,L,_,S)=>.int .i64 (My L S)⟩
def c7j:Pt×Mv×List Stk×List Bool×List Sm->Nat->Option Inv
 |(p,r,L,u,S),2=>some {β:=Nat,ok:=λi=>i<=S.length/\∀j,j<i->ME (S.getD j BA) L=0,st:=λi=>⟨[⟨8,none,.int .i64 i⟩,⟨7,none,.int .i64 S.length⟩,⟨6,none,.sl 9 S.length (FI.row S) none⟩,⟨1,none,.own 0 0⟩],[.cells 98 (QN p r L u S)]⟩,μ:=λi=>S.length-i}
 |_,_=>none
theorem f7i{L:List Stk}{S:List Sm}{i:Nat}(hi:i<S.length)(h:¬ME (S.getD i BA) L=0):My L S=12:=by unfold My;rw[Ih];exact J3.2 ⟨S.getD i BA,Do hi,Dr⟩
theorem d5k{L:List Stk}{S:List Sm}(h:∀j,j<S.length->ME (S.getD j BA) L=0):My L S=0:=by unfold My;rw[Ii];intro b;obtain⟨s,hs,a⟩:=J3.1 b;obtain⟨i,c,rfl⟩:=Ou (d:=BA) hs;rw[h i c]at a;exact absurd a Dn
theorem c86:PS 39 b17:=by
 refine con [(81,YA)] (by simpa using d55) c7y c7j b17 ?_ ?_ Tryz.func39 Dk Dk Dk ?_
 .intro args pre s h f;unfold b17 at h;split at h
  .simp only[Hx]at h;obtain⟨⟨q,p,r,L,u,S⟩,hx,rfl,rfl⟩:=h;obtain⟨l,m⟩:=c3e hx f.1;exact⟨(p,r,L,u,S),⟨l,Im⟩,⟨m,f.2⟩,rfl⟩
  .cases h
 .exact Bu
 .rintro⟨p,r,L,u,S⟩ ⟨⟨c9,a,gb,sj⟩,n⟩;refine X0 _ ?_;(repeat' first|constructor|intro h)<;>refine Lm ?_
  refine⟨(0:Nat),⟨Ix _,λj c=>absurd c (Ja _)⟩,?_,?_⟩
  .exact X1b
  .intro i o;obtain⟨g,k⟩:=o;replace g:i<=S.length:=g;have hs:i<S.length->(S.getD i BA).ps.length<=100000/\(S.getD i BA).ls.length<=100000:=λh=>n _ (Do h);refine X0 _ ?_;(repeat' first|constructor|intro h)<;>refine Lm ?_
   all_goals(try simp only[Hv,RT.lst_row]at*)
   all_goals(try first
    |omega
    |exact⟨⟨BV.is_row _,BR.is_row _,AC.is_row _⟩,NV L a,hs Dj,a,f4m a⟩
    |exact A4
    |exact(d5k λj c=>k j Dj).symm)
   .have d:(!decide (ME (S.getD i BA) L=0))=true:=h;exact(f7i (i:=i) Dj (by simpa using d)).symm
   .refine⟨i+1,⟨Dj,λj c=> ?_⟩,Dy,?_⟩
    .by_cases e:j<i
     .exact k j e
     .have:j=i:=Dj;subst this;have d:(!decide (ME (S.getD j BA) L=0))=false:=h;simpa using d
    .exact X1d
def HL(W H a b e:Int):Bool:=decide (AQ W H a e=0)&&decide (AF W H a e=b)
def Nu(W H a b:Int):Option Int:=if HL W H a b 0=true then some 0 else if HL W H a b 1=true then some 1 else if HL W H a b 2=true then some 2 else none
def Vy(W H a b:Int):Int:=if(Nu W H a b).isSome=true then a else 0
def Wn(W H a b:Int):Int:=(Nu W H a b).getD 0
def d22(W H a b:Int):SV:=.agg [.int .i64 (Vy W H (min a b) (max a b)),.int .u8 (Wn W H (min a b) (max a b))]
def b8a:AK
 | [.agg [.int .i64 W,.int .i64 H],.agg [.int .u8 _,.int .i64 a,.int .i64 b]]=>some (True,d22 W H a b)
 |_=>none
def f6e:Fam:=⟨(Int×Int)×Int×Int×Int,λ((W,H),s,a,b)=>[.agg [.int .i64 W,.int .i64 H],.agg [.int .u8 s,.int .i64 a,.int .i64 b]],λ_=>True,λ((W,H),_,a,b)=>d22 W H a b⟩
def f3x:(Int×Int)×Int×Int×Int->Nat->Option Inv
 |((W,H),s,a,b),3=>some {β:=Nat,ok:=λi=>i<=3/\∀j:Nat,j<i->HL W H (min a b) (max a b) j=false,st:=λi=>⟨[⟨20,none,.int .u8 i⟩,⟨6,none,.int .i64 (max a b)⟩,⟨5,none,.int .i64 (min a b)⟩,⟨4,none,.own 2 0⟩,⟨2,none,.own 0 0⟩],[.cells 23 [.int .i64 W,.int .i64 H],.cells 164 [.int .u8 s,.int .i64 a,.int .i64 b],.cells 104 [.int .i64 0,.int .u8 0]]⟩,μ:=λi=>3-i}
 |_,_=>none
theorem f3b{W H a b:Int}{i:Nat}(hi:i<3)(h:∀j:Nat,j<i->HL W H a b j=false)(c:HL W H a b i=true):Nu W H a b=some (i:Int):=by
 rcases(show i=0\/i=1\/i=2 from Dj)with rfl|rfl|rfl
 .exact Ih c
 .have d:¬HL W H a b 0=true:=Hr;unfold Nu;rw[if_neg d];exact if_pos c
 .have d:¬HL W H a b 0=true:=Hr;have e:¬HL W H a b 1=true:=Ht;unfold Nu;rw[if_neg d,if_neg e];exact if_pos c
theorem d7w{W H a b:Int}(h:∀j:Nat,j<3->HL W H a b j=false):Nu W H a b=none:=by
 have c:¬HL W H a b 0=true:=Hr;have d:¬HL W H a b 1=true:=Ht;have e:¬HL W H a b 2=true:=by rw[show HL W H a b 2=false from h 2 Dn];decide
 unfold Nu;rw[if_neg c,if_neg d,if_neg e]
theorem f5j:PS 82 b8a:=by
 refine con [(124,Sc)] (by simpa using b13) f6e f3x b8a ?_ ?_ Tryz.func82 Dk Dk Dk ?_
 .intro args pre s h hp;unfold b8a at h;split at h
  .rename_i W H s a b;cases h;exact⟨((W,H),s,a,b),⟨Dz,Dz,Im⟩,Im,rfl⟩
  .cases h
 .exact Bt
 .rintro⟨⟨W,H⟩,s,a,b⟩ _;refine X0 _ ?_;(repeat' first|constructor|intro h)<;>refine Lm ?_
  refine⟨(0:Nat),⟨Ix _,λj d=>absurd d (Ja _)⟩,?_,?_⟩
  .exact X1b
  .intro i k;obtain⟨g,f⟩:=k;replace g:i<=3:=g;refine X0 _ ?_;(repeat' first|constructor|intro h)<;>refine Lm ?_
   all_goals(try simp only[Hv]at*)
   all_goals(try first
    |exact Ap
    |(have e:=f3b (i:=i) Dj f (by unfold HL;assumption);simp[Vy,Wn,e];done)
    |(have e:=d7w λj d=>f j Dj;simp[Vy,Wn,e];done))
   .refine⟨i+1,⟨Dj,λj d=> ?_⟩,Dy,?_⟩
    .by_cases e:j<i
     .exact f j e
     .have:j=i:=Dj;subst this;unfold HL;assumption
    .exact X1d
def Vn(u:List Bool)(b:Int):Int:=if u.getD b.toNat FX.d=true then 1 else 2
def b7s:AK
 | [x,.agg [.int .u8 _,.int .i64 _,.int .i64 b]]=>(WK x).map λq=>(q.1/\0<=b/\b<q.2.2.2.2.1.length,.int .u8 (Vn q.2.2.2.2.1 b))
 |_=>none
def f2u:Fam:=⟨(Pt×Mv×List Stk×List Bool×List Sm)×Int×Int×Int,λ((p,r,L,u,S),s,a,b)=>[.agg (QN p r L u S),.agg [.int .u8 s,.int .i64 a,.int .i64 b]],λ((p,_,L,u,S),_,_,b)=>Tl p L u S/\0<=b/\b<u.length,λ((_,_,_,u,_),_,_,b)=>.int .u8 (Vn u b)⟩
theorem f35:PS 83 b7s:=by
 refine con [] Dm f2u (λ_ _=>none) b7s ?_ ?_ Tryz.func83 Dk Dk Dk ?_
 .intro args pre s h c;unfold b7s at h;split at h
  .rename_i x d a b;simp only[Hx]at h;obtain⟨⟨q,p,r,L,u,S⟩,hx,rfl,rfl⟩:=h;obtain⟨e,f⟩:=c3e hx c.1;exact⟨((p,r,L,u,S),d,a,b),⟨e,Dz,Im⟩,⟨f,c.2⟩,rfl⟩
  .cases h
 .exact Bt
 .rintro⟨⟨p,r,L,u,S⟩,s,a,b⟩ c;replace c:Tl p L u S/\0<=b/\b<u.length:=c;refine X0 _ ?_;(repeat' first|constructor|intro h)<;>refine Lm ?_
  all_goals(first
   |omega
   |exact(Ih h).symm
   |exact(Ii (by rw[h];decide)).symm
   |skip)
def RQ(v:List Int->List SV)(q:List Int):Int:=match v q with
 | [.int _ m]=>m
 |_=>0
def QQ(h:List Int->Bool)(g:List Int->Int)(w:Bool):List Blk:=[.cells 4 [.bool w],.cells 102 [.omp 2],.map (.ints [.i64,.u8]) false h (λq=>[.int .u8 (g q)])]
def WX(g:List Int->Int)(q:List Int)(k:Int):Bool:= !decide (g q=3)&& !decide (g q=k)
def chFit(h:List Int->Bool)(v:List Int->List SV):Prop:=(∀q,v q=[.int .u8 (RQ v q)])/\∀q,h q=false->RQ v q=0
def d7i:HK:=λa own=>match a,own with
 | [.agg [.int .i64 c,.int .u8 e],.int .u8 k,.own 0 0,.own 1 0],[.cells b [.bool w],.cells d [.omp 2],.map K f h v]=>if b=4/\d=102/\K=.ints [.i64,.u8]/\f=false then some ⟨chFit h v,.tup [],QQ h (RQ v) (w||WX (RQ v) [c,e] k),[]⟩else none
 |_,_=>none
def FChk1:FamH:=⟨(Int×Int×Int)×(List Int->Bool)×(List Int->Int)×Bool,λ((c,e,k),_)=>[.agg [.int .i64 c,.int .u8 e],.int .u8 k,.own 0 0,.own 1 0],λ(_,h,g,w)=>QQ h g w,λ(_,h,g,_)=>∀q,h q=false->g q=0,λ_=>.tup [],λ((c,e,k),h,g,w)=>QQ h g (w||WX g [c,e] k),[]⟩
theorem pChk1:HS 41 d7i:=by
 refine HB {} ⟨Dm,Dm,Dm⟩ FChk1 (λ_ _=>none) d7i ?_ ?_ ?_ Tryz.func41 Dk Dk Dk ?_
 .intro args own r h a;unfold d7i at h;split at h
  .rename_i c e k T1 w T2 K ag hs v;split at h
   .rename_i b;obtain⟨rfl,rfl,rfl,rfl⟩:=b;cases h;obtain⟨d,f⟩:=a;refine⟨((c,e,k),hs,RQ v,w),⟨Dz,Dt,Dt,Dt,Im⟩,rfl,⟨⟨Ea,Dq,Im⟩,⟨Ea,Dq,Im⟩,⟨⟨rfl,rfl⟩,λ_=>rfl,λq _=>d q⟩,Im⟩,f,rfl,rfl,rfl⟩
   .cases h
  .cases h
 .intro i;show 4<=_;decide
 .intro i;show 3<=3;decide
 .rintro⟨⟨c,e,k⟩,hs,g,w⟩ μ a;replace a:∀q,hs q=false->g q=0:=a;refine X0 _ ?_;(repeat' first|constructor|intro h)<;>refine Lm ?_
  all_goals(first
   |exact λ_ j=>by rw[a _ j];kernel_rfl
   |exact B8
   |exact Bb
   |rfl
   |skip)
def SH(p:Pt)(u:List Bool)(x:Lo):List Int×Int:=([Vy p.W p.H (min x.a x.b) (max x.a x.b),Wn p.W p.H (min x.a x.b) (max x.a x.b)],Vn u x.b)
def UI(p:Pt)(u:List Bool)(g:List Int->Int)(l:List Lo):Bool:=l.any λx=>WX g (SH p u x).1 (SH p u x).2
def NU(p:Pt)(u:List Bool)(g:List Int->Int)(S:List Sm):Bool:=S.any λs=>UI p u g s.ls
def loIn(u:List Bool)(S:List Sm):Prop:=∀s∈S,s.ls.length<=100000/\∀x∈s.ls,0<=x.b/\x.b<u.length
def c78:HK:=λa own=>match a,own with
 | [x,.clo f [.own 0 0,.own 1 0]],[.cells b [.bool w],.cells c [.omp 2],.map K d h v]=>if f=41/\b=4/\c=102/\K=.ints [.i64,.u8]/\d=false then
     (WK x).map λq=>⟨chFit h v/\q.1/\loIn q.2.2.2.2.1 q.2.2.2.2.2,.tup [],QQ h (RQ v) (w||NU q.2.1 q.2.2.2.2.1 (RQ v) q.2.2.2.2.2),[]⟩else none
 |_,_=>none
def FLoops:FamH:=⟨(Pt×Mv×List Stk×List Bool×List Sm)×(List Int->Bool)×(List Int->Int)×Bool,λ((p,r,L,u,S),_)=>[.agg (QN p r L u S),.clo 41 [.own 0 0,.own 1 0]],λ(_,h,g,w)=>QQ h g w,λ((p,_,L,u,S),h,g,_)=>Tl p L u S/\loIn u S/\∀q,h q=false->g q=0,λ_=>.tup [],λ((p,_,_,u,S),h,g,w)=>QQ h g (w||NU p u g S),[]⟩
def ILoops:(Pt×Mv×List Stk×List Bool×List Sm)×(List Int->Bool)×(List Int->Int)×Bool->Nat->Option Inv
 |((p,r,L,u,S),h,g,w),2=>some {β:=Nat,ok:=λi=>i<=S.length,st:=λi=>⟨[⟨11,none,.int .i64 i⟩,⟨10,none,.int .i64 S.length⟩,⟨9,none,.sl 9 S.length (FI.row S) none⟩,⟨2,none,.own 3 0⟩,⟨1,none,.clo 41 [.own 0 0,.own 1 0]⟩],QQ h g (w||NU p u g (S.take i))++[.cells 98 (QN p r L u S)]⟩,μ:=λi=>S.length-i,sub:=λi=>some fun
  |5=>some {β:=Nat,ok:=λk=>k<=(S.getD i FI.d).ls.length,st:=λk=>⟨[⟨18,none,.int .i64 k⟩,⟨17,none,.int .i64 (S.getD i FI.d).ls.length⟩,⟨16,none,.sl 3 (S.getD i FI.d).ls.length (BR.row (S.getD i FI.d).ls) none⟩,⟨11,none,.int .i64 i⟩,⟨10,none,.int .i64 S.length⟩,⟨9,none,.sl 9 S.length (FI.row S) none⟩,⟨2,none,.own 3 0⟩,⟨1,none,.clo 41 [.own 0 0,.own 1 0]⟩],QQ h g (w||NU p u g (S.take i)||UI p u g ((S.getD i FI.d).ls.take k))++[.cells 98 (QN p r L u S)]⟩,μ:=λk=>(S.getD i FI.d).ls.length-k}
  |_=>none}
 |_,_=>none
theorem d8t{p:Pt}{u:List Bool}{g:List Int->Int}{S:List Sm}{i:Nat}(hi:i<S.length):NU p u g (S.take (i+1))=(NU p u g (S.take i)||UI p u g (S.getD i FI.d).ls):=by rw[II (d:=FI.d) hi];simp[NU]
theorem d65{p:Pt}{u:List Bool}{g:List Int->Int}{l:List Lo}{i:Nat}(hi:i<l.length):UI p u g (l.take (i+1))=(UI p u g (l.take i)||WX g (SH p u (l.getD i BR.d)).1 (SH p u (l.getD i BR.d)).2):=by rw[II (d:=BR.d) hi];simp[UI]
theorem pLoops:HS 40 c78:=by
 refine HB {l:=[(82,b8a),(83,b7s)],h:=[(41,d7i)],c2:=true} ⟨by simpa using⟨f5j,f35⟩,Dm,by simpa using pChk1⟩ FLoops ILoops c78 ?_ ?_ ?_ Tryz.func40 Dk Dk Dk ?_
 .intro args own r h z;unfold c78 at h;split at h
  .rename_i x f T1 w T2 K ag hs v;split at h
   .rename_i A;obtain⟨rfl,rfl,rfl,rfl,rfl⟩:=A;simp only[In]at h;obtain⟨⟨q,p,B,L,u,S⟩,hx,rfl⟩:=h;obtain⟨⟨c,e⟩,j,m⟩:=z;obtain⟨C,E⟩:=c3e hx j;refine⟨((p,B,L,u,S),hs,RQ v,w),⟨C,⟨rfl,rfl⟩,Im⟩,rfl,⟨⟨Ea,Dq,Im⟩,⟨Ea,Dq,Im⟩,⟨⟨rfl,rfl⟩,λ_=>rfl,λq _=>c q⟩,Im⟩,⟨E,m,e⟩,rfl,rfl,rfl⟩
   .cases h
  .cases h
 .exact Bt
 .intro i;show 3<=3;decide
 .rintro⟨⟨p,r,L,u,S⟩,hs,g,w⟩ μ ⟨⟨c,e,j,m⟩,F,n⟩;refine X0 _ ?_;(repeat' first|constructor|intro h)<;>refine Lm ?_
  refine⟨(0:Nat),Ix _,?_,?_⟩
  .exact X1f
  .intro i s;replace s:i<=S.length:=s;have G:i<S.length->(S.getD i FI.d).ls.length<=100000/\∀x∈(S.getD i FI.d).ls,0<=x.b/\x.b<u.length:=λh=>F _ (Do h);refine X0 _ ?_;(repeat' first|constructor|intro h)<;>refine Lm ?_
   all_goals(try simp only[Hv]at*)
   all_goals(try first
    |exact Ap
    |exact λ_=>Im
    |exact λ_ _=>Im
    |(rw[Kh Dj];done))
   .have t:i<S.length:=Dj;obtain⟨hl1,H⟩:=G t;refine⟨(0:Nat),Ix _,?_,?_⟩
    .exact X1f
    .intro k y;replace y:k<=(S.getD i FI.d).ls.length:=y;have hx:k<(S.getD i FI.d).ls.length->0<=((S.getD i FI.d).ls.getD k BR.d).b/\((S.getD i FI.d).ls.getD k BR.d).b<u.length:=λh=>H _ (Do h);refine X0 _ ?_;(repeat' first|constructor|intro h)<;>refine Lm ?_
     all_goals(try simp only[Hv,RT.lst_row]at*)
     all_goals(try first
      |exact Ap
      |exact⟨⟨⟨EY _,c⟩,NV L e,⟨FX.isL_row _,j⟩,FI.isL_row _,m⟩,hx Dj⟩
      |exact⟨λ_=>rfl,n⟩)
     .have o:k<(S.getD i FI.d).ls.length:=Dj;refine⟨k+1,by show k+1<=_;omega,Fi,?_⟩;refine X0 _ ?_;(repeat' first|constructor|intro h)<;>refine Lm ?_
      all_goals first|exact Ad|(rw[d65 o,<-Bool.or_assoc];rfl)|skip
     .have o:k=(S.getD i FI.d).ls.length:=Dj;subst o;refine⟨i+1,E1,Dy,?_⟩;refine X0 _ ?_;(repeat' first|constructor|intro h)<;>refine Lm ?_
      all_goals first|exact Ad|(rw[d8t t,Kj,Bool.or_assoc];done)|skip
section
variable{p:Pt}{r:Mv}{L:List Stk}
theorem f3i(S:SkOK p r L):(FW p r).length=AG p.W p.H:=by unfold FW;rw[List.length_map];exact S.P.pl
theorem ofS_ok(b:EL p r)(c:FK L)(h:DP p r L=0):Tl p L (FW p r) (FN p r L)/\f2b (FN p r L)/\loIn (FW p r) (FN p r L):=by
 have S:=f77 h b.2.1 c.2.1;have hN:=DB S.hs;have e:=SP (CB p r L) (3*AG p.W p.H);have hu:=f3i S;have hk:(DI p r L).length=(EN (CB p r L) (3*AG p.W p.H)).length:=b3z;have one:∀s∈FN p r L,∃t,t∈EN (CB p r L) (3*AG p.W p.H)/\s=KJ (CB p r L) t:=by
  intro s hs;obtain⟨i,g,rfl⟩:=Ou (d:=BA) hs;have f:i<(DI p r L).length:=by rw[<-b8d h];exact g
  exact⟨_,Do (d:=BA) (MX (Tq f)),c2n h f⟩
 refine⟨⟨b.1.1,c.1,Dj,by rw[b8d h];omega⟩,λs hs=> ?_,λs hs=> ?_⟩
 .obtain⟨t,a,rfl⟩:=one s hs;obtain⟨j,k,_⟩:=e.2 t a;exact⟨Gz,Gz⟩
 .obtain⟨t,a,rfl⟩:=one s hs;obtain⟨j,k,_⟩:=e.2 t a;refine⟨Gz,λx hx=> ?_⟩;have:=((Vp S _ (Ir _) t a).ls x ((Qp _ _ _).1 hx)).2.1.2;unfold AU at this;omega
end
theorem Sx(p:Pt):(⟨p.W,p.H,p.l⟩:Pt)=p:=rfl
theorem SS(r:Mv):(⟨r.t,r.x,r.y⟩:Mv)=r:=rfl
def MK(l:List Cr)(q:List Int):Int:=l.foldl (λa c=>if GF q c=true then c.k else a) 0
theorem c6g{l:List Cr}{i:Nat}(hi:i<l.length)(q:List Int):MK (l.take (i+1)) q=if GF q (l.getD i d0)=true then(l.getD i d0).k else MK (l.take i) q:=by
 have:l.take (i+1)=l.take i++[l.getD i d0]:=by rw[La];congr 1;simp[hi]
 unfold MK;rw[this,List.foldl_append];rfl
theorem f2p{l:List Cr}{i:Nat}(hi:i<l.length)(q:List Int):DH (decide (q=[(l.getD i d0).c,(l.getD i d0).e])) [SV.int .u8 (l.getD i d0).k] [SV.int .u8 (MK (l.take i) q)]=[SV.int .u8 (MK (l.take (i+1)) q)]:=by
 rw[c6g hi];unfold GF;by_cases e:q=[(l.getD i d0).c,(l.getD i d0).e]
 .rw[J7 e,Ih rfl];rfl
 .rw[J9 e,Ii Bool.false_ne_true];rfl
theorem f16{l:List Cr}{q:List Int}(h:Dl l q=false):MK l q=0:=by
 have:∀(l:List Cr) (a:Int),l.any (GF q)=false->l.foldl (λa c=>if GF q c=true then c.k else a) a=a:=by
  intro l;induction l with
  |nil=>intro a _;rfl
  |cons c l b=>
   intro a h;simp only[List.any_cons,Kv]at h;simp only[Lb,h.1,I4];exact b a h.2
 exact this l 0 h
def FJ(p:Pt)(r:Mv)(L:List Stk):Int:=
 if¬DP p r L=0 then DP p r L else if¬My L (FN p r L)=0 then My L (FN p r L)else if NU p (FW p r) (MK p.l) (FN p r L)=true then 13 else 0
def RY:AK
 | [x]=>(KU x).map λq=>(q.1,.int .i64 (FJ q.2.1 q.2.2.1 q.2.2.2))
 |_=>none
def FCheck:Fam:=⟨Pt×Mv×List Stk,λ(p,r,L)=>[.agg (EF p r L)],λ(p,r,L)=>EL p r/\FK L,λ(p,r,L)=>.int .i64 (FJ p r L)⟩
def ICheck:Pt×Mv×List Stk->Nat->Option Inv
 |(p,r,L),9=>some {β:=Nat,ok:=λi=>i<=p.l.length,st:=λi=>⟨[⟨28,none,.int .i64 i⟩,⟨27,none,.int .i64 p.l.length⟩,⟨26,none,.sl 3 p.l.length (DS p.l) none⟩,⟨6,none,.own 3 0⟩,⟨3,none,.own 1 0⟩],[.cells 31 (EF p r L),.cells 98 (QN p r L (FW p r) (FN p r L)),.map (.ints [.i64,.u8]) false (Dl (p.l.take i)) (λq=>[.int .u8 (MK (p.l.take i) q)]),.cells 102 [.omp 2]]⟩,μ:=λi=>p.l.length-i}
 |_,_=>none
theorem Xy:PS 15 RY:=by
 refine NH {l:=[(38,d78),(39,b17)],h:=[(40,c78)],c2:=true} ⟨by simpa using⟨pLook,c86⟩,Dm,by simpa using pLoops⟩ FCheck ICheck RY ?_ ?_ Tryz.func15 Dk Dk Dk ?_
 .intro args pre s h n;unfold RY at h;split at h
  .simp only[Hx]at h;obtain⟨⟨q,p,r,L⟩,hx,rfl,rfl⟩:=h;obtain⟨c,o,t⟩:=PD hx n;exact⟨(p,r,L),⟨c,Im⟩,⟨o,t⟩,rfl⟩
  .cases h
 .exact Bu
 .rintro⟨p,r,L⟩ ⟨c9,c8⟩;refine X0 _ ?_;(repeat' first|constructor|intro h)<;>refine Lm ?_
  all_goals(try simp only[CL,RT.lst_row,Sx,SS]at*)
  .exact Df
  .exact(Ih Dr).symm
  all_goals
   have e:DP p r L=0:=by first|(simpa using h;done)|(rename_i c;simpa using c;done)
   have f:¬¬DP p r L=0:=λu=>u e;obtain⟨⟨k1,k2,k3,k4⟩,k5,k6⟩:=ofS_ok c9 c8 e;simp only[zP,zR,zL,Ih e]at*
  .exact⟨⟨⟨EY _,k1⟩,NV L k2,⟨FX.isL_row _,k3⟩,FI.isL_row _,k4⟩,k5⟩
  .have b:¬My L (FN p r L)=0:=Dr;unfold FJ;rw[Ii f,Ih b]
  .have b:¬¬My L (FN p r L)=0:=Dr;refine⟨(0:Nat),Ix _,?_,?_⟩
   .refine X0 _ ?_;(repeat' first|constructor|intro h)<;>refine Lm ?_
    all_goals first|exact Ad|(intro q;first|rfl|(intro g;exact absurd g (by simp[Dl])))|skip
   .intro i k;replace k:i<=p.l.length:=k;refine X0 _ ?_;(repeat' first|constructor|intro h)<;>refine Lm ?_
    all_goals(try simp only[Hv,CL,RT.lst_row,Sx]at*)
    all_goals(try first
     |omega
     |(simp only[AD];have:=c9.1.1;omega)
     |exact⟨⟨λ_=>rfl,λ_ g=>f16 g⟩,⟨⟨EY _,k1⟩,NV L k2,⟨FX.isL_row _,k3⟩,FI.isL_row _,k4⟩,k6⟩)
    .have m:i<p.l.length:=Dj;refine⟨i+1,E1,Dy,?_⟩;refine X0 _ ?_;(repeat' first|constructor|intro h)<;>refine Lm ?_
     all_goals first|exact Ad|exact λq=>b6c m q|exact λq _=>f2p m q|skip
    .have j:i=p.l.length:=Dj;subst j;have a:(false||NU p (FW p r) (MK (List.take p.l.length p.l)) (FN p r L))=true:=h;rw[Kj,Mc]at a;unfold FJ;rw[Ii f,Ii b,Ih a]
    .have j:i=p.l.length:=Dj;subst j;have a:(false||NU p (FW p r) (MK (List.take p.l.length p.l)) (FN p r L))=false:=h;rw[Kj,Mc]at a;unfold FJ;rw[Ii f,Ii b,Ii (by rw[a];decide)]
theorem d40{A B:List Stk}(h:A.Perm B):(CF A).length=(CF B).length:=by unfold CF;exact(List.Perm.flatMap_right _ h).length_eq
theorem d9j{A:List Stk}{f:Stk->Stk}(h:∀s,(f s).l.length=s.l.length):(CF (A.map f)).length=(CF A).length:=by
 induction A with
 |nil=>rfl
 |cons s A a=>
  have b:(CF ((s::A).map f)).length=(f s).l.length+(CF (A.map f)).length:=by simp[CF]
  have c:(CF (s::A)).length=s.l.length+(CF A).length:=by simp[CF]
  rw[b,c,h,a]
theorem UU{p:Pt}{r:Mv}{L:List Stk}(a:EL p r)(b:FK L):((ML p.l.length (DS p.l)/\p.l.length<=100000)/\(∀x∈p.l,AD .u8 x.e)/\0<=r.t/\r.t<=255)/\(AA.isL L.length (AA.row L)/\L.length<=100000/\∀s∈L,s.l.length<=100000)/\(∀x∈L,AD .u8 x.c.q)/\(CF L).length<=100000:=
 ⟨⟨⟨EY _,a.1.1⟩,a.1.2,a.2⟩,NV L b.1,b.2⟩
theorem d1w{A:List Stk}(h:FH A):AA.isL A.length (AA.row A)/\A.length<=100000/\∀s∈A,s.l.length<=100000:=NV A h
def lnR:RT (Int×Int):=⟨2,λx=>[.int .u8 x.1,.int .i64 x.2],λl=>match l with
 | [.int _ a,.int _ b]=>(a,b)
 |_=>(0,0),(0,0),λ_=>rfl⟩
def DD:RT Cr:=⟨3,λx=>[.int .i64 x.c,.int .u8 x.e,.int .u8 x.k],λl=>match l with
 | [.int _ a,.int _ b,.int _ c]=>⟨a,b,c⟩
 |_=>⟨0,0,0⟩,⟨0,0,0⟩,λ_=>rfl⟩
def LY(x:Cr):List Int:=[x.c,x.e]
theorem Xo(p:Pt)(r:Mv)(L:List Stk):∃q,KU (.agg (EF p r L))=some (q,p,r,L)/\(EL p r->FK L->q):=by
 have b:(⟨p.W,p.H,ED p.l.length (DS p.l)⟩:Pt)=p:=by rw[CL]
 have c:AA.lst L.length (AA.row L)=L:=RT.lst_row _ _;have a:∃q,KU (.agg (EF p r L))=some (q,⟨p.W,p.H,ED p.l.length (DS p.l)⟩,⟨r.t,r.x,r.y⟩,AA.lst L.length (AA.row L))/\(EL p r->FK L->q):=⟨_,rfl,λd e=>by have:=UU d e;simp only[RT.lst_row,CL];exact this⟩
 rw[b,c]at a;exact a
def We:AK
 | [.int .i64 a,.int .i64 b]=>some (b=6/\ -1000000<=a/\a<=1000000,.int .i64 (a/6))
 |_=>none
def FDn:Fam:=⟨Int×Int,λ(a,b)=>[.int .i64 a,.int .i64 b],λ(a,b)=>b=6/\ -1000000<=a/\a<=1000000,λ(a,_)=>.int .i64 (a/6)⟩
theorem pDn:PS 52 We:=by
 refine con [] Dm FDn (λ_ _=>none) We ?_ ?_ Tryz.func52 Dk Dk Dk ?_
 .intro args pre s h e;unfold We at h;split at h
  .rename_i a b;cases h;exact⟨(a,b),by simp[FDn,BG,SV.le2,SV.le1,SV.le0],e,rfl⟩
  .cases h
 .exact Bt
 .rintro⟨a,b⟩ ⟨rfl,h1,h2⟩;have c:0<=a->a.tdiv 6=a/6:=λh=>Ks h;have f:a<0-> -((-a+6-1).tdiv 6)=a/6:=λh=>by rw[Ks Dj];omega
  have d:a<0->(-a+6-1).tdiv 6=(-a+6-1)/6:=λh=>Ks Dj;refine X0 _ ?_;(repeat' first|constructor|intro h)<;>refine Lm ?_
  all_goals(try simp only[I0]at*)
  all_goals(first
   |exact c Dj
   |exact f Dj
   |decide
   |exact A4
   |(rw[d Dj];simp only[AD];omega)
   |(rw[c Dj];simp only[AD];omega)
   |(intro _;rw[d Dj];simp only[AD];omega)
   |(intro _;rw[c Dj];simp only[AD];omega)
   |skip)
def XD(X Y:Int):Int:=if Y%6<X%6/\X%6+Y%6<6 then 0 else if Y%6<X%6 then 1 else if 6<X%6+Y%6 then 2 else 3
def d6x:AK
 | [.agg [.int .i64 X,.int .i64 Y]]=>some ((-1000000<=X/\X<=1000000)/\ -1000000<=Y/\Y<=1000000,.agg [.int .i64 (X/6),.int .i64 (Y/6),.int .u8 (XD X Y)])
 |_=>none
def FAt25:Fam:=⟨Int×Int,λ(X,Y)=>[.agg [.int .i64 X,.int .i64 Y]],λ(X,Y)=>(-1000000<=X/\X<=1000000)/\ -1000000<=Y/\Y<=1000000,λ(X,Y)=>.agg [.int .i64 (X/6),.int .i64 (Y/6),.int .u8 (XD X Y)]⟩
theorem pAt25:PS 49 d6x:=by
 refine con [(52,We)] (by simpa using pDn) FAt25 (λ_ _=>none) d6x ?_ ?_ Tryz.func49 Dk Dk Dk ?_
 .intro args pre s h a;unfold d6x at h;split at h
  .rename_i X Y;cases h;exact⟨(X,Y),by simp[FAt25,BG,SV.le2,SV.le1,BJ,SV.le0],a,rfl⟩
  .cases h
 .exact Bu
 .rintro⟨X,Y⟩ a;replace a:(-1000000<=X/\X<=1000000)/\ -1000000<=Y/\Y<=1000000:=a;refine X0 _ ?_;(repeat' first|constructor|intro h)<;>refine Lm ?_
  all_goals(try simp only[I0,I1]at*)
  all_goals(first
   |omega
   |decide
   |exact⟨rfl,Dj,Dj⟩
   |exact⟨Im,Dj,Dj⟩
   |exact A4
   |exact Am
   |(unfold XD;repeat (first|rw[if_pos Dj]|rw[if_neg Dj]))
   |skip)
def LS(X Q:Int):Nat->Int:=tb [6*X+3,if Q=0 then 6*X else if Q=1 then 6*X+6 else if Q=2 then 6*X+6 else 6*X,if Q=0 then 6*X+6 else if Q=1 then 6*X+6 else 6*X]
def LK(Y Q:Int):Nat->Int:=tb [6*Y+3,if Q=0 then 6*Y else if Q=1 then 6*Y else if Q=2 then 6*Y+6 else 6*Y+6,if Q=0 then 6*Y else if Q=1 then 6*Y+6 else if Q=2 then 6*Y+6 else 6*Y]
def kCn:AK
 | [.agg [.int .i64 X,.int .i64 Y,.int .u8 Q]]=>some ((-30000<=X/\X<=30000)/\ -30000<=Y/\Y<=30000,.agg [.int .i64 (LS X Q 0),.int .i64 (LK Y Q 0),.int .i64 (LS X Q 1),.int .i64 (LK Y Q 1),.int .i64 (LS X Q 2),.int .i64 (LK Y Q 2)])
 |_=>none
def FCn:Fam:=⟨Int×Int×Int,λ(X,Y,Q)=>[.agg [.int .i64 X,.int .i64 Y,.int .u8 Q]],λ(X,Y,_)=>(-30000<=X/\X<=30000)/\ -30000<=Y/\Y<=30000,λ(X,Y,Q)=>.agg [.int .i64 (LS X Q 0),.int .i64 (LK Y Q 0),.int .i64 (LS X Q 1),.int .i64 (LK Y Q 1),.int .i64 (LS X Q 2),.int .i64 (LK Y Q 2)]⟩
theorem pCn:PS 70 kCn:=by
 refine con [] Dm FCn (λ_ _=>none) kCn ?_ ?_ Tryz.func70 Dk Dk Dk ?_
 .intro args pre s h a;unfold kCn at h;split at h
  .rename_i X Y Q;cases h;exact⟨(X,Y,Q),by simp[FCn,BG,SV.le2,SV.le1,BJ,SV.le0],a,rfl⟩
  .cases h
 .exact Bu
 .rintro⟨X,Y,Q⟩ a;replace a:(-30000<=X/\X<=30000)/\ -30000<=Y/\Y<=30000:=a;refine X0 _ ?_;(repeat' first|constructor|intro h)<;>refine Lm ?_
  all_goals(try simp only[AD])
  all_goals(try omega)
  all_goals(simp only[I0]at*)
  all_goals(try subst Q)
  all_goals(first|(simp[LS,LK,tb, *];done)|skip)
def GW(X Q:Int):Int:=if Q=1 then 6*X+5 else if Q=3 then 6*X+1 else 6*X+3
def GZ(Y Q:Int):Int:=if Q=0 then 6*Y+1 else if Q=2 then 6*Y+5 else 6*Y+3
def Wz:AK
 | [.agg [.int .i64 X,.int .i64 Y,.int .u8 Q]]=>some ((-30000<=X/\X<=30000)/\(-30000<=Y/\Y<=30000)/\0<=Q/\Q<=3,.agg [.int .i64 (GW X Q),.int .i64 (GZ Y Q)])
 |_=>none
def FIn25:Fam:=⟨Int×Int×Int,λ(X,Y,Q)=>[.agg [.int .i64 X,.int .i64 Y,.int .u8 Q]],λ(X,Y,Q)=>(-30000<=X/\X<=30000)/\(-30000<=Y/\Y<=30000)/\0<=Q/\Q<=3,λ(X,Y,Q)=>.agg [.int .i64 (GW X Q),.int .i64 (GZ Y Q)]⟩
theorem pIn25:PS 51 Wz:=by
 refine con [(70,kCn)] (by simpa using pCn) FIn25 (λ_ _=>none) Wz ?_ ?_ Tryz.func51 Dk Dk Dk ?_
 .intro args pre s h a;unfold Wz at h;split at h
  .rename_i X Y Q;cases h;exact⟨(X,Y,Q),by simp[FIn25,BG,SV.le2,SV.le1,BJ,SV.le0],a,rfl⟩
  .cases h
 .exact Bu
 .rintro⟨X,Y,Q⟩ a;replace a:(-30000<=X/\X<=30000)/\(-30000<=Y/\Y<=30000)/\0<=Q/\Q<=3:=a;have b:Q=0\/Q=1\/Q=2\/Q=3:=Dj;have f:(LS X Q 0+LS X Q 1+LS X Q 2)=3*GW X Q:=by
   rcases b with rfl|rfl|rfl|rfl<;>simp[LS,tb,GW]<;>omega
  have g:(LK Y Q 0+LK Y Q 1+LK Y Q 2)=3*GZ Y Q:=by rcases b with rfl|rfl|rfl|rfl<;>simp[LK,tb,GZ]<;>omega
  have c:∀i,i<3-> -200000<=LS X Q i/\LS X Q i<=200000:=λi j=>by have d:i=0\/i=1\/i=2:=Dj;rcases d with rfl|rfl|rfl<;>rcases b with rfl|rfl|rfl|rfl<;>simp[LS,tb]<;>omega
  have e:∀i,i<3-> -200000<=LK Y Q i/\LK Y Q i<=200000:=λi j=>by have d:i=0\/i=1\/i=2:=Dj;rcases d with rfl|rfl|rfl<;>rcases b with rfl|rfl|rfl|rfl<;>simp[LK,tb]<;>omega
  have x0:=c 0 Dj;have x1:=c 1 Dj;have x2:=c 2 Dj;have y0:=e 0 Dj;have y1:=e 1 Dj;have y2:=e 2 Dj;have k:(3*GW X Q).tdiv 3=GW X Q:=Int.mul_tdiv_cancel_left _ Dj;have l:(3*GZ Y Q).tdiv 3=GZ Y Q:=Int.mul_tdiv_cancel_left _ Dj;refine X0 _ ?_;(repeat' first|constructor|intro h)<;>refine Lm ?_
  all_goals(try simp only[f,g,k,l])
  all_goals(first|exact Ax|exact⟨⟨Dj,Dj⟩,Dj,Dj⟩|exact A4|exact Am|decide|skip)
def kL25:AK
 | [.int .i64 a,.int .i64 b]=>some (True,.int .i64 (max a b))
 |_=>none
def FL25:Fam:=⟨Int×Int,λ(a,b)=>[.int .i64 a,.int .i64 b],λ(_,_)=>True,λ(a,b)=>.int .i64 (max a b)⟩
theorem pL25:PS 94 kL25:=by
 refine con [] Dm FL25 (λ_ _=>none) kL25 ?_ ?_ Tryz.func94 Dk Dk Dk ?_
 .intro args pre s h c;unfold kL25 at h;split at h
  .rename_i a b;cases h;exact⟨(a,b),by simp[FL25,BG,SV.le2,SV.le1,SV.le0],c,rfl⟩
  .cases h
 .exact Bt
 .rintro⟨a,b⟩ c;replace c:True:=c;refine X0 _ ?_;(repeat' first|constructor|intro h)<;>refine Lm ?_
  all_goals(simp only[I0]at*)
  all_goals(first|omega|skip)
def EC(a b:Int×Int×Int):Int×Int×Int:=if a.1≠b.1 then(4,2*max a.1 b.1,0)else if a.2.1≠b.2.1 then(6,0,2*max a.2.1 b.2.1)else if a.2.2+b.2.2=1\/a.2.2+b.2.2=5 then(5,a.1+a.2.1+1,a.1+a.2.1+1)else(7,a.1-a.2.1,a.2.1-a.1)
def WR:AK
 | [.agg [.int .i64 a,.int .i64 b,.int .u8 c],.agg [.int .i64 d,.int .i64 e,.int .u8 f]]=>some (((-30000<=a/\a<=30000)/\(-30000<=b/\b<=30000)/\0<=c/\c<=3)/\(-30000<=d/\d<=30000)/\(-30000<=e/\e<=30000)/\0<=f/\f<=3,.agg [.int .u8 (EC (a,b,c) (d,e,f)).1,.int .i64 (EC (a,b,c) (d,e,f)).2.1,.int .i64 (EC (a,b,c) (d,e,f)).2.2])
 |_=>none
def FM25:Fam:=⟨Int×Int×Int×Int×Int×Int,λ(a,b,c,d,e,f)=>[.agg [.int .i64 a,.int .i64 b,.int .u8 c],.agg [.int .i64 d,.int .i64 e,.int .u8 f]],λ(a,b,c,d,e,f)=>((-30000<=a/\a<=30000)/\(-30000<=b/\b<=30000)/\0<=c/\c<=3)/\(-30000<=d/\d<=30000)/\(-30000<=e/\e<=30000)/\0<=f/\f<=3,λ(a,b,c,d,e,f)=>.agg [.int .u8 (EC (a,b,c) (d,e,f)).1,.int .i64 (EC (a,b,c) (d,e,f)).2.1,.int .i64 (EC (a,b,c) (d,e,f)).2.2]⟩
theorem pM25:PS 59 WR:=by
 refine con [(94,kL25)] (by simpa using pL25) FM25 (λ_ _=>none) WR ?_ ?_ Tryz.func59 Dk Dk Dk ?_
 .intro args pre s h g;unfold WR at h;split at h
  .rename_i a b c d e f;cases h;exact⟨(a,b,c,d,e,f),by simp[FM25,BG,SV.le2,SV.le1,BJ,SV.le0],g,rfl⟩
  .cases h
 .exact Bt
 .rintro⟨a,b,c,d,e,f⟩ g;replace g:((-30000<=a/\a<=30000)/\(-30000<=b/\b<=30000)/\0<=c/\c<=3)/\(-30000<=d/\d<=30000)/\(-30000<=e/\e<=30000)/\0<=f/\f<=3:=g;refine X0 _ ?_;(repeat' first|constructor|intro h)<;>refine Lm ?_
  all_goals(try simp only[I0,Hw,I7]at*)
  all_goals(first
   |trivial
   |exact A4
   |exact Am
   |(simp[EC, *];done)
   |(simp only[EC];repeat (first|rw[Ih Dj]|rw[Ii Dj]))
   |skip)
def Mx:Nat->Int->Int->Int×Int
 |0,a,b=>(a,b)
 |i+1,a,b=>(-(Mx i a b).2,(Mx i a b).1)
def Nm(t X:Int):Int:=if 4<=t then -X else X
theorem d1i{a b K:Int}(c: -K<=a/\a<=K)(d: -K<=b/\b<=K):∀i,(-K<=(Mx i a b).1/\(Mx i a b).1<=K)/\ -K<=(Mx i a b).2/\(Mx i a b).2<=K
 |0=>⟨c,d⟩
 |i+1=>by have:=d1i c d i;simp only[Mx];omega
theorem f2n{t X Y:Int}(h:0<=t/\t<=7):Mx (t%4).toNat (Nm t X) Y=AL t X Y:=by have a:t=0\/t=1\/t=2\/t=3\/t=4\/t=5\/t=6\/t=7:=Dj;rcases a with rfl|rfl|rfl|rfl|rfl|rfl|rfl|rfl<;>simp[Mx,Nm,AL]
def IGo:Int×Int×Int×Int×Int->Nat->Option Inv
 |(t,x,y,X,Y),5=>some {β:=Nat,ok:=λi=>(i:Int)<=t%4,st:=λi=>⟨[⟨7,none,.int .i64 i⟩,⟨6,none,.int .i64 (Mx i (Nm t X) Y).2⟩,⟨5,none,.int .i64 (Mx i (Nm t X) Y).1⟩,⟨4,none,.own 2 0⟩,⟨2,none,.own 0 0⟩],[.cells 28 [.int .u8 t,.int .i64 x,.int .i64 y],.cells 86 [.int .i64 X,.int .i64 Y],.cells 86 [.int .i64 0,.int .i64 0]]⟩,μ:=λi=>(t%4).toNat-i}
 |_,_=>none
def WC:AK
 | [.agg [.int .u8 t,.int .i64 x,.int .i64 y],.agg [.int .i64 X,.int .i64 Y]]=>some ((0<=t/\t<=7)/\((-50000<=x/\x<=50000)/\ -50000<=y/\y<=50000)/\(-300000<=X/\X<=300000)/\ -300000<=Y/\Y<=300000,.agg [.int .i64 ((AL t X Y).1+6*x),.int .i64 ((AL t X Y).2+6*y)])
 |_=>none
def FGo25:Fam:=⟨Int×Int×Int×Int×Int,λ(t,x,y,X,Y)=>[.agg [.int .u8 t,.int .i64 x,.int .i64 y],.agg [.int .i64 X,.int .i64 Y]],λ(t,x,y,X,Y)=>(0<=t/\t<=7)/\((-50000<=x/\x<=50000)/\ -50000<=y/\y<=50000)/\(-300000<=X/\X<=300000)/\ -300000<=Y/\Y<=300000,λ(t,x,y,X,Y)=>.agg [.int .i64 ((AL t X Y).1+6*x),.int .i64 ((AL t X Y).2+6*y)]⟩
theorem pGo25:PS 50 WC:=by
 refine con [] Dm FGo25 IGo WC ?_ ?_ Tryz.func50 Dk Dk Dk ?_
 .intro args pre s h f;unfold WC at h;split at h
  .rename_i t x y X Y;cases h;exact⟨(t,x,y,X,Y),by simp[FGo25,BG,SV.le2,SV.le1,BJ,SV.le0],f,rfl⟩
  .cases h
 .exact Bt
 .rintro⟨t,x,y,X,Y⟩ ⟨c,⟨hx,hy⟩,hX,g⟩;have j:t.tmod 4=t%4:=K7 c.1;have k: -300000<=Nm t X/\Nm t X<=300000:=by unfold Nm;split<;>omega
  have l:=@d1i (Nm t X) Y 300000 k g;all_goals refine X0 _ ?_;(repeat' first|constructor|intro h)<;>refine Lm ?_
  all_goals(try simp only[I0]at*)
  all_goals(try first
   |exact A4
   |exact Am)
  all_goals
   refine⟨(0:Nat),by show (0:Int)<=t%4;omega,?_,?_⟩
   .refine X0 _ ?_;(repeat' first|constructor|intro h)<;>refine Lm ?_
    all_goals first|exact A2|(show _=Nm t X;unfold Nm;first|rw[if_pos Dj]|rw[if_neg Dj])|skip
   .intro i d;replace d:(i:Int)<=t%4:=d;have m:=l i;have b:(i:Int)=t%4->Mx i (Nm t X) Y=AL t X Y:=λe=>by
     rw[<-f2n c];congr 1;omega
    refine X0 _ ?_;(repeat' first|constructor|intro h)<;>refine Lm ?_
    all_goals(try simp only[j,I0]at*)
    all_goals(try first
     |decide
     |exact A4
     |exact Am
     |(rw[b Dj];done)
     |(rw[b Dj]at m;rw[b Dj];simp only[AD];omega))
    all_goals(try
     refine⟨i+1,by show ((i+1:Nat):Int)<=t%4;omega,by show (t%4).toNat-(i+1)<(t%4).toNat-i;omega,?_⟩;all_goals refine X0 _ ?_;(repeat' first|constructor|intro h)<;>refine Lm ?_
     all_goals first|exact An|skip)
theorem in_le{X Q:Int}(_:0<=Q/\Q<=3):6*X+1<=GW X Q/\GW X Q<=6*X+5:=by unfold GW;repeat' split<;>omega
theorem f28{X Q:Int}(_:0<=Q/\Q<=3):6*X+1<=GZ X Q/\GZ X Q<=6*X+5:=by unfold GZ;repeat' split<;>omega
theorem img_eq{t x y X Y Q:Int}(ht:0<=t/\t<=7)(a:0<=Q/\Q<=3):((AL t (GW X Q) (GZ Y Q)).1+6*x)/6=(sq t X Y).1+x/\((AL t (GW X Q) (GZ Y Q)).2+6*y)/6=(sq t X Y).2+y/\XD ((AL t (GW X Q) (GZ Y Q)).1+6*x) ((AL t (GW X Q) (GZ Y Q)).2+6*y)=tq t Q:=by have b:t=0\/t=1\/t=2\/t=3\/t=4\/t=5\/t=6\/t=7:=Dj;have c:=EJ a;rcases b with rfl|rfl|rfl|rfl|rfl|rfl|rfl|rfl<;>rcases c with rfl|rfl|rfl|rfl<;>simp only[AL,GW,GZ,sq,tq,tb,XD]<;>refine⟨?_,?_,?_⟩<;>simp<;>(try omega)<;>((repeat' split)<;>omega)
def XN:AK
 | [.agg [.int .u8 t,.int .i64 x,.int .i64 y],.agg [.int .i64 X,.int .i64 Y,.int .u8 Q]]=>some ((0<=t/\t<=7)/\((-50000<=x/\x<=50000)/\ -50000<=y/\y<=50000)/\(-30000<=X/\X<=30000)/\(-30000<=Y/\Y<=30000)/\0<=Q/\Q<=3,.agg [.int .i64 ((sq t X Y).1+x),.int .i64 ((sq t X Y).2+y),.int .u8 (tq t Q)])
 |_=>none
def FImg:Fam:=⟨Int×Int×Int×Int×Int×Int,λ(t,x,y,X,Y,Q)=>[.agg [.int .u8 t,.int .i64 x,.int .i64 y],.agg [.int .i64 X,.int .i64 Y,.int .u8 Q]],λ(t,x,y,X,Y,Q)=>(0<=t/\t<=7)/\((-50000<=x/\x<=50000)/\ -50000<=y/\y<=50000)/\(-30000<=X/\X<=30000)/\(-30000<=Y/\Y<=30000)/\0<=Q/\Q<=3,λ(t,x,y,X,Y,Q)=>.agg [.int .i64 ((sq t X Y).1+x),.int .i64 ((sq t X Y).2+y),.int .u8 (tq t Q)]⟩
theorem pImg:PS 20 XN:=by
 refine con [(51,Wz),(50,WC),(49,d6x)] (by simpa using⟨pIn25,pGo25,pAt25⟩) FImg (λ_ _=>none) XN ?_ ?_ Tryz.func20 Dk Dk Dk ?_
 .intro args pre s h c;unfold XN at h;split at h
  .rename_i t x y X Y Q;cases h;exact⟨(t,x,y,X,Y,Q),by simp[FImg,BG,SV.le2,SV.le1,BJ,SV.le0],c,rfl⟩
  .cases h
 .exact Bt
 .rintro⟨t,x,y,X,Y,Q⟩ ⟨b,⟨hx,d⟩,e,f,a⟩;obtain⟨g,j,k⟩:=@img_eq t x y X Y Q b a;have b1:=@in_le X Q a;have b2:=@f28 Y Q a;have l:t=0\/t=1\/t=2\/t=3\/t=4\/t=5\/t=6\/t=7:=Dj;have m:(-250000<=(AL t (GW X Q) (GZ Y Q)).1/\(AL t (GW X Q) (GZ Y Q)).1<=250000)/\ -250000<=(AL t (GW X Q) (GZ Y Q)).2/\(AL t (GW X Q) (GZ Y Q)).2<=250000:=by
   rcases l with rfl|rfl|rfl|rfl|rfl|rfl|rfl|rfl<;>simp only[AL]<;>simp<;>omega
  refine X0 _ ?_;(repeat' first|constructor|intro h)<;>refine Lm ?_
  all_goals(first
   |exact g
   |exact j
   |exact k
   |exact⟨e,f,a⟩
   |exact⟨b,⟨hx,d⟩,⟨Dj,Dj⟩,Dj,Dj⟩
   |exact⟨⟨Dj,Dj⟩,Dj,Dj⟩
   |(obtain⟨⟨l1,l2⟩,l3,l4⟩:=m;exact⟨⟨Dj,Dj⟩,Dj,Dj⟩)
   |skip)
def r8:List Int:=[0,1,2,3,4,5,6,7]
def f4c(f s t:Int):Bool:=decide (AL t 6 0=AL s (AL f 6 0).1 (AL f 6 0).2)&&decide (AL t 0 6=AL s (AL f 0 6).1 (AL f 0 6).2)
theorem d8b:(r8.all λf=>r8.all λs=>r8.all λt=>f4c f s t==decide (t=tt f s))=true:=by decide +kernel
theorem QT{t:Int}(h:0<=t/\t<=7):t∈r8:=by have a:t=0\/t=1\/t=2\/t=3\/t=4\/t=5\/t=6\/t=7:=Dj;rcases a with rfl|rfl|rfl|rfl|rfl|rfl|rfl|rfl<;>decide
theorem f2w{f s t:Int}(a:0<=f/\f<=7)(hs:0<=s/\s<=7)(b:0<=t/\t<=7):f4c f s t=decide (t=tt f s):=by have:=Iq.1 (Iq.1 (Iq.1 d8b f (QT a)) s (QT hs)) t (QT b);simpa using this
theorem tt_le0:(r8.all λf=>r8.all λs=>decide (0<=tt f s)&&decide (tt f s<=7))=true:=by decide +kernel
theorem tt_le{f s:Int}(a:0<=f/\f<=7)(hs:0<=s/\s<=7):0<=tt f s/\tt f s<=7:=by have:=Iq.1 (Iq.1 tt_le0 f (QT a)) s (QT hs);simpa using this
theorem c9n{t a b c d:Int}(ht:0<=t/\t<=7):(AL t (a+c) (b+d)).1=(AL t a b).1+(AL t c d).1/\(AL t (a+c) (b+d)).2=(AL t a b).2+(AL t c d).2:=by have e:t=0\/t=1\/t=2\/t=3\/t=4\/t=5\/t=6\/t=7:=Dj;rcases e with rfl|rfl|rfl|rfl|rfl|rfl|rfl|rfl<;>simp[AL]<;>omega
theorem d4j{t a b:Int}(ht:0<=t/\t<=7):(AL t (6*a) (6*b)).1=6*(AL t a b).1/\(AL t (6*a) (6*b)).2=6*(AL t a b).2:=by have c:t=0\/t=1\/t=2\/t=3\/t=4\/t=5\/t=6\/t=7:=Dj;rcases c with rfl|rfl|rfl|rfl|rfl|rfl|rfl|rfl<;>simp[AL]<;>omega
theorem Rz{t a b K:Int}(ha: -K<=a/\a<=K)(hb: -K<=b/\b<=K):(-K<=(AL t a b).1/\(AL t a b).1<=K)/\ -K<=(AL t a b).2/\(AL t a b).2<=K:=by
 unfold AL;repeat' split
 all_goals(dsimp only;omega)
theorem lin_0{t:Int}(ht:0<=t/\t<=7):AL t 0 0=(0,0):=by have a:t=0\/t=1\/t=2\/t=3\/t=4\/t=5\/t=6\/t=7:=Dj;rcases a with rfl|rfl|rfl|rfl|rfl|rfl|rfl|rfl<;>rfl
theorem th_o{t x y u z w a b:Int}(_:0<=t/\t<=7)(c:0<=u/\u<=7):(AL u ((AL t a b).1+6*x) ((AL t a b).2+6*y)).1+6*z=(AL u (AL t a b).1 (AL t a b).2).1+6*((AL u x y).1+z)/\(AL u ((AL t a b).1+6*x) ((AL t a b).2+6*y)).2+6*w=(AL u (AL t a b).1 (AL t a b).2).2+6*((AL u x y).2+w):=by have d:=@c9n u (AL t a b).1 (AL t a b).2 (6*x) (6*y) c;have e:=@d4j u x y c;rw[d.1,d.2,e.1,e.2];omega
def thV(t x y u z w:Int):List SV:=[.int .u8 (tt t u),.int .i64 ((AL u x y).1+z),.int .i64 ((AL u x y).2+w)]
def thP(t x y u z w a b:Int):List SV:=[.int .i64 ((AL u ((AL t a b).1+6*x) ((AL t a b).2+6*y)).1+6*z),.int .i64 ((AL u ((AL t a b).1+6*x) ((AL t a b).2+6*y)).2+6*w)]
def ITh25:Int×Int×Int×Int×Int×Int->Nat->Option Inv
 |(t,x,y,u,z,w),5=>some {β:=Nat,ok:=λi=>(i:Int)<=tt t u,st:=λi=>⟨[⟨8,none,.int .u8 i⟩,⟨7,none,.own 5 0⟩,⟨6,none,.own 4 0⟩,⟨5,none,.own 3 0⟩,⟨4,none,.own 2 0⟩],[.cells 28 [.int .u8 t,.int .i64 x,.int .i64 y],.cells 28 [.int .u8 u,.int .i64 z,.int .i64 w],.cells 28 [.int .u8 0,.int .i64 0,.int .i64 0],.cells 86 (thP t x y u z w 0 0),.cells 86 (thP t x y u z w 6 0),.cells 86 (thP t x y u z w 0 6)]⟩,μ:=λi=>8-i}
 |_,_=>none
def Vv:AK
 | [.agg [.int .u8 t,.int .i64 x,.int .i64 y],.agg [.int .u8 u,.int .i64 z,.int .i64 w]]=>some (((0<=t/\t<=7)/\(-20000<=x/\x<=20000)/\ -20000<=y/\y<=20000)/\(0<=u/\u<=7)/\(-20000<=z/\z<=20000)/\ -20000<=w/\w<=20000,.agg (thV t x y u z w))
 |_=>none
def FTh25:Fam:=⟨Int×Int×Int×Int×Int×Int,λ(t,x,y,u,z,w)=>[.agg [.int .u8 t,.int .i64 x,.int .i64 y],.agg [.int .u8 u,.int .i64 z,.int .i64 w]],λ(t,x,y,u,z,w)=>((0<=t/\t<=7)/\(-20000<=x/\x<=20000)/\ -20000<=y/\y<=20000)/\(0<=u/\u<=7)/\(-20000<=z/\z<=20000)/\ -20000<=w/\w<=20000,λ(t,x,y,u,z,w)=>.agg (thV t x y u z w)⟩
theorem pTh25:PS 22 Vv:=by
 refine con [(50,WC),(52,We)] (by simpa using⟨pGo25,pDn⟩) FTh25 ITh25 Vv ?_ ?_ Tryz.func22 Dk Dk Dk ?_
 .intro args pre s h C;unfold Vv at h;split at h
  .rename_i t x y u z w;cases h;exact⟨(t,x,y,u,z,w),by simp[FTh25,BG,SV.le2,SV.le1,BJ,SV.le0],C,rfl⟩
  .cases h
 .exact Bt
 .rintro⟨t,x,y,u,z,w⟩ ⟨⟨g,hx,E⟩,f,hz,hw⟩;have hX:=@Rz u x y 20000 hx E;have F:=tt_le g f;have k:=lin_0 g;have m:=lin_0 f;have n:=@Rz t 6 0 6 Dj Dj;have o:=@Rz t 0 6 6 Dj Dj;have b1:=@Rz u (AL t 6 0).1 (AL t 6 0).2 6 n.1 n.2;have b2:=@Rz u (AL t 0 6).1 (AL t 0 6).2 6 o.1 o.2;have l:=@d4j u x y f;have o1:=@th_o t x y u z w 6 0 g f;have o2:=@th_o t x y u z w 0 6 g f;have j:=@th_o t x y u z w 0 0 g f;simp only[k,m]at j;refine AB _ ?_;(repeat' first|constructor|refine Iu λf=> ?_|intro h)<;>refine Lm ?_
  all_goals(try first
   |exact⟨g,⟨Dj,Dj⟩,Dj,Dj⟩
   |exact⟨f,⟨Dj,Dj⟩,⟨Dj,Dj⟩,Dj,Dj⟩
   |(simp only[k];exact⟨f,⟨Dj,Dj⟩,⟨Dj,Dj⟩,Dj,Dj⟩))
  refine⟨(0:Nat),F.1,?_,?_⟩
  .refine AB _ ?_;(repeat' first|constructor|refine Iu λf=> ?_|intro h)<;>refine Lm ?_
   all_goals first|exact A2|skip
  .intro i q;replace q:(i:Int)<=tt t u:=q;have r:((AL i 6 0).1=(AL u (AL t 6 0).1 (AL t 6 0).2).1/\(AL i 6 0).2=(AL u (AL t 6 0).1 (AL t 6 0).2).2/\(AL i 0 6).1=(AL u (AL t 0 6).1 (AL t 0 6).2).1/\(AL i 0 6).2=(AL u (AL t 0 6).1 (AL t 0 6).2).2)↔(i:Int)=tt t u:=by
    have:=@f2w t u i g f Dj;unfold f4c at this;have v:=Lz (· =true) this;simp only[I3,Prod.ext_iff,eq_iff_iff]at v;rw[<-v];exact⟨λ⟨a,b,c,d⟩=>⟨⟨a,b⟩,c,d⟩,λ⟨⟨a,b⟩,c,d⟩=>⟨a,b,c,d⟩⟩
   have k1:=@Rz (i:Int) 6 0 6 Dj Dj;have k2:=@Rz (i:Int) 0 6 6 Dj Dj;have A:(6*((AL u x y).1+z))/6=(AL u x y).1+z:=Dj;have B:(6*((AL u x y).2+w))/6=(AL u x y).2+w:=Dj;refine AB _ ?_;(repeat' first|constructor|refine Iu λf=> ?_|intro h)<;>refine Lm ?_
   all_goals(try simp only[I0,I1,Bool.and_true]at*)
   all_goals(try simp only[k,o1.1,o1.2,o2.1,o2.2,Int.zero_add,l.1,l.2,<-Int.mul_add,A,B]at h)
   all_goals(try simp only[k,o1.1,o1.2,o2.1,o2.2,Int.zero_add,l.1,l.2,<-Int.mul_add,A,B])
   all_goals(try first
    |exact⟨Im,Dj,Dj⟩
    |exact⟨⟨Dj,Dj⟩,⟨⟨Dj,Dj⟩,Dj,Dj⟩,⟨Dj,Dj⟩,Dj,Dj⟩
    |exact A4
    |(intro _;exact⟨⟨Dj,Dj⟩,⟨⟨Dj,Dj⟩,Dj,Dj⟩,⟨Dj,Dj⟩,Dj,Dj⟩)
    |exact Bs
    |exact r.1 ⟨Dj,Dj,Dj,Dj⟩
    |omega)
   have ba:(i:Int)≠tt t u:=λe=>by obtain⟨G,H,I,J⟩:=r.2 e;simp only[G,H,I,J]at h;simp at h
   refine⟨i+1,by show ((i+1:Nat):Int)<=tt t u;omega,by show 8-(i+1)<8-i;omega,?_⟩;all_goals refine AB _ ?_;(repeat' first|constructor|refine Iu λf=> ?_|intro h)<;>refine Lm ?_
   all_goals first|exact A2|exact j.1.symm|exact j.2.symm|exact o1.1.symm|exact o1.2.symm|exact o2.1.symm|exact o2.2.symm|(simp only[k];omega)|omega|skip
def RN:AK
 | [.agg [.int .i64 W,.int .i64 _],.int .i64 i]=>some (1<=W/\W<=256/\0<=i/\i<=1024,.agg [.int .i64 (i/4%W),.int .i64 (i/4/W),.int .u8 (i%4)])
 |_=>none
def FCe25:Fam:=⟨Int×Int×Int,λ(W,H,i)=>[.agg [.int .i64 W,.int .i64 H],.int .i64 i],λ(W,_,i)=>1<=W/\W<=256/\0<=i/\i<=1024,λ(W,_,i)=>.agg [.int .i64 (i/4%W),.int .i64 (i/4/W),.int .u8 (i%4)]⟩
theorem VV:PS 37 RN:=by
 refine con [] Dm FCe25 (λ_ _=>none) RN ?_ ?_ Tryz.func37 Dk Dk Dk ?_
 .intro args pre s h b;unfold RN at h;split at h
  .rename_i W H i;cases h;exact⟨(W,H,i),by simp[FCe25,BG,SV.le2,SV.le1,BJ,SV.le0],b,rfl⟩
  .cases h
 .exact Bt
 .rintro⟨W,H,i⟩ ⟨h1,h2,a,h4⟩;have c:i.tdiv 4=i/4:=Ks a;have d:i.tmod 4=i%4:=K7 a;have e:(i/4).tdiv W=i/4/W:=Ks Dj;have f:(i/4).tmod W=i/4%W:=K7 Dj;have a5:i/4/W<=i/4:=Int.ediv_le_self _ Dj;have a6:0<=i/4/W:=Int.ediv_nonneg Dj Dj;have a7:0<=i/4%W:=M7 _ Dj;have a8:i/4%W<W:=M0 _ Dj;refine X0 _ ?_;(repeat' first|constructor|intro h)<;>refine Lm ?_
  all_goals(try simp only[c,d,e,f])
  all_goals(try simp only[AD])
  all_goals(first|omega|skip)
def kE(q k:Int):Int:=if k=0 then 0 else if(q=0\/q=2)↔k=1 then 1 else 2
theorem LM{q k:Int}:0<=kE q k/\kE q k<3:=by unfold kE;repeat' split<;>omega
def Ho(X Y Q k:Int):Cl:=AP ⟨X,Y,Q⟩ (kE Q k)
theorem f6n{X Y Q k:Int}(a:0<=Q/\Q<=3):Ho X Y Q k=if k=0 then(if Q=0 then⟨X,Y-1,2⟩else if Q=1 then⟨X+1,Y,3⟩else if Q=2 then⟨X,Y+1,0⟩else⟨X-1,Y,1⟩)else if k=1 then⟨X,Y,(Q+1)%4⟩else⟨X,Y,(Q+3)%4⟩:=by unfold Ho kE AP;rcases EJ a with rfl|rfl|rfl|rfl<;>by_cases b:k=0<;>by_cases c:k=1<;>simp[b,c,DR,DU,DW,tb]<;>omega
def Xl:AK
 | [.agg [.int .i64 X,.int .i64 Y,.int .u8 Q],.int .i64 k]=>some ((0<=Q/\Q<=3)/\(-30000<=X/\X<=30000)/\ -30000<=Y/\Y<=30000,.agg [.int .i64 (Ho X Y Q k).x,.int .i64 (Ho X Y Q k).y,.int .u8 (Ho X Y Q k).q])
 |_=>none
def FBy25:Fam:=⟨Int×Int×Int×Int,λ(X,Y,Q,k)=>[.agg [.int .i64 X,.int .i64 Y,.int .u8 Q],.int .i64 k],λ(X,Y,Q,_)=>(0<=Q/\Q<=3)/\(-30000<=X/\X<=30000)/\ -30000<=Y/\Y<=30000,λ(X,Y,Q,k)=>.agg [.int .i64 (Ho X Y Q k).x,.int .i64 (Ho X Y Q k).y,.int .u8 (Ho X Y Q k).q]⟩
theorem pBy25:PS 65 Xl:=by
 refine con [] Dm FBy25 (λ_ _=>none) Xl ?_ ?_ Tryz.func65 Dk Dk Dk ?_
 .intro args pre s h a;unfold Xl at h;split at h
  .rename_i X Y Q k;cases h;exact⟨(X,Y,Q,k),by simp[FBy25,BG,SV.le2,SV.le1,BJ,SV.le0],a,rfl⟩
  .cases h
 .exact Bt
 .rintro⟨X,Y,Q,k⟩ a;replace a:(0<=Q/\Q<=3)/\(-30000<=X/\X<=30000)/\ -30000<=Y/\Y<=30000:=a;have b:(Q+1).tmod 4=(Q+1)%4:=K7 Dj;have c:(Q+3).tmod 4=(Q+3)%4:=K7 Dj;have e:=@f6n X Y Q k a.1;refine X0 _ ?_;(repeat' first|constructor|intro h)<;>refine Lm ?_
  all_goals(try simp only[b,c])
  all_goals(try simp only[AD])
  all_goals(try omega)
  all_goals(try simp only[I0]at*)
  all_goals(first|(rw[e];simp[*];done)|(rw[e];repeat (first|rw[Ih Dj]|rw[Ii Dj]))|skip)
def BB(W H i k:Int):Int:=if AQ W H i (kE (i%4) k)=0 then AF W H i (kE (i%4) k)else -1
theorem f6d{W H i k:Int}(hs:AM W H=0)(c:0<=i)(h:i<4*W*H):BB W H i k=if(Ho (i/4%W) (i/4/W) (i%4) k).x<0\/(Ho (i/4%W) (i/4/W) (i%4) k).y<0\/W<=(Ho (i/4%W) (i/4/W) (i%4) k).x\/H<=(Ho (i/4%W) (i/4/W) (i%4) k).y then -1 else 4*((Ho (i/4%W) (i/4/W) (i%4) k).y*W+(Ho (i/4%W) (i/4/W) (i%4) k).x)+(Ho (i/4%W) (i/4/W) (i%4) k).q:=by
 have a:=@UW W H i (kE (i%4) k) hs c h LM;rw[IK hs c h]at a;have e:AP ⟨i/4%W,i/4/W,i%4⟩ (kE (i%4) k)=Ho (i/4%W) (i/4/W) (i%4) k:=rfl;rw[e]at a;unfold BB;by_cases b:AQ W H i (kE (i%4) k)=0
 .have:=a.1.1 b;rw[Ih b,a.2 b,Ii Dj]
 .have:¬_:=λq=>b (a.1.2 q);rw[Ii b,Ih Dj]
def SR:AK
 | [.agg [.int .i64 W,.int .i64 H],.int .i64 i,.int .i64 k]=>some (AM W H=0/\0<=i/\i<4*W*H,.int .i64 (BB W H i k))
 |_=>none
def FNb25:Fam:=⟨Int×Int×Int×Int,λ(W,H,i,k)=>[.agg [.int .i64 W,.int .i64 H],.int .i64 i,.int .i64 k],λ(W,H,i,_)=>AM W H=0/\0<=i/\i<4*W*H,λ(W,H,i,k)=>.int .i64 (BB W H i k)⟩
theorem d7b:PS 58 SR:=by
 refine con [(37,RN),(65,Xl)] (by simpa using⟨VV,pBy25⟩) FNb25 (λ_ _=>none) SR ?_ ?_ Tryz.func58 Dk Dk Dk ?_
 .intro args pre s h g;unfold SR at h;split at h
  .rename_i W H i k;cases h;exact⟨(W,H,i,k),by simp[FNb25,BG,SV.le2,SV.le1,BJ,SV.le0],g,rfl⟩
  .cases h
 .exact Bv
 .rintro⟨W,H,i,k⟩ ⟨hs,a,b⟩;have hw:=HE hs;have hN:4*W*H=4*(W*H):=Kz 4 W H;have c:=IH hs a b;rw[IK hs a b]at c;dsimp only at c;have d:=@LQ ⟨i/4%W,i/4/W,i%4⟩ (kE (i%4) k) c.2.2.1 LM;have e:AP ⟨i/4%W,i/4/W,i%4⟩ (kE (i%4) k)=Ho (i/4%W) (i/4/W) (i%4) k:=rfl;rw[e]at d;dsimp only at d;have f:=@f6d W H i k hs a b;have j:0<=(Ho (i/4%W) (i/4/W) (i%4) k).y->0<=(Ho (i/4%W) (i/4/W) (i%4) k).y*W/\(Ho (i/4%W) (i/4/W) (i%4) k).y*W<=257*256:=λh=>⟨Int.mul_nonneg h Dj,Int.mul_le_mul Dj Dj Dj Dj⟩
  refine X0 _ ?_;(repeat' first|constructor|intro h)<;>refine Lm ?_
  all_goals(try simp only[I0,I7]at*)
  all_goals(first
   |exact Ax
   |exact⟨Dj,⟨Dj,Dj⟩,Dj,Dj⟩
   |exact A4
   |(have q:=j Dj;simp only[AD];omega)
   |(rw[f,Ih Dj];done)
   |(rw[f,Ii Dj];done)
   |skip)
def YJ:AK
 | [.agg [.int .i64 W,.int .i64 H],.int .i64 i,.int .i64 k]=>some (AM W H=0/\0<=i/\i<4*W*H,.int .i64 (kE (i%4) k))
 |_=>none
def FEd25:Fam:=⟨Int×Int×Int×Int,λ(W,H,i,k)=>[.agg [.int .i64 W,.int .i64 H],.int .i64 i,.int .i64 k],λ(W,H,i,_)=>AM W H=0/\0<=i/\i<4*W*H,λ(_,_,i,k)=>.int .i64 (kE (i%4) k)⟩
theorem pEd25:PS 93 YJ:=by
 refine con [(37,RN)] (by simpa using VV) FEd25 (λ_ _=>none) YJ ?_ ?_ Tryz.func93 Dk Dk Dk ?_
 .intro args pre s h c;unfold YJ at h;split at h
  .rename_i W H i k;cases h;exact⟨(W,H,i,k),by simp[FEd25,BG,SV.le2,SV.le1,BJ,SV.le0],c,rfl⟩
  .cases h
 .exact Bv
 .rintro⟨W,H,i,k⟩ ⟨hs,h0,h1⟩;have hw:=HE hs;have hN:4*W*H=4*(W*H):=Kz 4 W H;refine X0 _ ?_;(repeat' first|constructor|intro h)<;>refine Lm ?_
  all_goals(try simp only[I0]at*)
  all_goals(first
   |exact Ax
   |(unfold kE;simp_all;done)
   |(have a:(i%4=0\/i%4=2)↔k=1:=by
      rename_i b;have:=(Kx (α:=Bool)).1 b;rw[<-Is (p:=k=1),<-this];simp
     unfold kE;rw[Ii Dp,Ih a])
   |(have a:¬((i%4=0\/i%4=2)↔k=1):=λa=>by
      rename_i b;have e:decide (k=1)=(decide (i%4=0)||decide (i%4=2)):=by rw[<-Bool.decide_or];exact decide_eq_decide.2 a.symm
      rw[e]at b;simp at b
     unfold kE;rw[Ii Dp,Ii a])
   |skip)
def GS(K C:Int):Int×Int×Int:=if K=1 then(4,2*C,0)else if K=2 then(6,0,2*C)else if K=3 then(5,C,C)else(7,-C,C)
def d91:AK
 | [.agg [.int .u8 K,.int .i64 C]]=>some (-100000<=C/\C<=100000,.agg [.int .u8 (GS K C).1,.int .i64 (GS K C).2.1,.int .i64 (GS K C).2.2])
 |_=>none
def FMi28:Fam:=⟨Int×Int,λ(K,C)=>[.agg [.int .u8 K,.int .i64 C]],λ(_,C)=> -100000<=C/\C<=100000,λ(K,C)=>.agg [.int .u8 (GS K C).1,.int .i64 (GS K C).2.1,.int .i64 (GS K C).2.2]⟩
theorem pMi28:PS 28 d91:=by
 refine con [] Dm FMi28 (λ_ _=>none) d91 ?_ ?_ Tryz.func28 Dk Dk Dk ?_
 .intro args pre s h a;unfold d91 at h;split at h
  .rename_i K C;cases h;exact⟨(K,C),by simp[FMi28,BG,SV.le2,SV.le1,BJ,SV.le0],a,rfl⟩
  .cases h
 .exact Bu
 .rintro⟨K,C⟩ a;replace a: -100000<=C/\C<=100000:=a;refine X0 _ ?_;(repeat' first|constructor|intro h)<;>refine Lm ?_
  all_goals(try simp only[I0]at*)
  all_goals(first
   |trivial
   |exact A4
   |exact Am
   |(simp[GS, *];done)
   |(simp only[GS];repeat (first|rw[Ih Dj]|rw[Ii Dj]))
   |skip)
def GA(a b:Int×Int×Int):Int×Int:=if a.1≠b.1 then(1,max a.1 b.1)else if a.2.1≠b.2.1 then(2,max a.2.1 b.2.1)else if a.2.2+b.2.2=1\/a.2.2+b.2.2=5 then(3,a.1+a.2.1+1)else(4,a.2.1-a.1)
theorem be_m(a b:Int×Int×Int):GA a b=if(EC a b).1=4 then(1,(EC a b).2.1.tdiv 2)else if(EC a b).1=6 then(2,(EC a b).2.2.tdiv 2)else if(EC a b).1=5 then(3,(EC a b).2.1)else(4,(EC a b).2.2):=by
 unfold GA EC;have c:∀x:Int,(2*x).tdiv 2=x:=λx=>Int.mul_tdiv_cancel_left _ Dj;repeat' split
 all_goals first
  |rfl
  |(simp only[c];done)
  |(simp_all;done)
theorem m25_le{a b c d e f:Int}(h:((-30000<=a/\a<=30000)/\(-30000<=b/\b<=30000)/\0<=c/\c<=3)/\(-30000<=d/\d<=30000)/\(-30000<=e/\e<=30000)/\0<=f/\f<=3):(-60001<=(EC (a,b,c) (d,e,f)).2.1/\(EC (a,b,c) (d,e,f)).2.1<=60001)/\ -60001<=(EC (a,b,c) (d,e,f)).2.2/\(EC (a,b,c) (d,e,f)).2.2<=60001:=by
 unfold EC;repeat' split
 all_goals(dsimp only at*;omega)
theorem d3y{x:Int}(h: -60001<=x/\x<=60001): -60001<=x.tdiv 2/\x.tdiv 2<=60001:=by
 have h1:=Int.mul_tdiv_add_tmod x 2;have h2:=Int.tmod_lt_of_pos x (b:=2) Dj;have h3: -2<x.tmod 2:=by
  rcases Int.le_total 0 x with h|h
  .have:=Int.tmod_nonneg 2 h;omega
  .have:=Int.tmod_nonneg 2 (a:= -x) Dj;rw[Int.neg_tmod]at this;have c:=Int.tmod_lt_of_pos (-x) (b:=2) Dj;rw[Int.neg_tmod]at c;omega
 omega
def Xx:AK
 | [.agg [.int .i64 a,.int .i64 b,.int .u8 c],.agg [.int .i64 d,.int .i64 e,.int .u8 f]]=>some (((-30000<=a/\a<=30000)/\(-30000<=b/\b<=30000)/\0<=c/\c<=3)/\(-30000<=d/\d<=30000)/\(-30000<=e/\e<=30000)/\0<=f/\f<=3,.agg [.int .u8 (GA (a,b,c) (d,e,f)).1,.int .i64 (GA (a,b,c) (d,e,f)).2])
 |_=>none
def FBe28:Fam:=⟨Int×Int×Int×Int×Int×Int,λ(a,b,c,d,e,f)=>[.agg [.int .i64 a,.int .i64 b,.int .u8 c],.agg [.int .i64 d,.int .i64 e,.int .u8 f]],λ(a,b,c,d,e,f)=>((-30000<=a/\a<=30000)/\(-30000<=b/\b<=30000)/\0<=c/\c<=3)/\(-30000<=d/\d<=30000)/\(-30000<=e/\e<=30000)/\0<=f/\f<=3,λ(a,b,c,d,e,f)=>.agg [.int .u8 (GA (a,b,c) (d,e,f)).1,.int .i64 (GA (a,b,c) (d,e,f)).2]⟩
theorem pBe28:PS 125 Xx:=by
 refine con [(59,WR)] (by simpa using pM25) FBe28 (λ_ _=>none) Xx ?_ ?_ Tryz.func125 Dk Dk Dk ?_
 .intro args pre s h g;unfold Xx at h;split at h
  .rename_i a b c d e f;cases h;exact⟨(a,b,c,d,e,f),by simp[FBe28,BG,SV.le2,SV.le1,BJ,SV.le0],g,rfl⟩
  .cases h
 .exact Bt
 .rintro⟨a,b,c,d,e,f⟩ g;replace g:((-30000<=a/\a<=30000)/\(-30000<=b/\b<=30000)/\0<=c/\c<=3)/\(-30000<=d/\d<=30000)/\(-30000<=e/\e<=30000)/\0<=f/\f<=3:=g;have k:=be_m (a,b,c) (d,e,f);have j:=m25_le g;have d1:=d3y j.1;have d2:=d3y j.2;refine X0 _ ?_;(repeat' first|constructor|intro h)<;>refine Lm ?_
  all_goals(try simp only[I0]at*)
  all_goals(first
   |trivial
   |exact g
   |exact⟨Dn,Er⟩
   |exact A4
   |exact Am
   |(rw[k];repeat (first|rw[Ih Dp]|rw[Ii Dp]))
   |skip)
def Xd(a b:Int×Int×Int):Int:=if b.2.1<a.2.1\/a.2.1=b.2.1/\(b.1<a.1\/a.1=b.1/\b.2.2<a.2.2)then 1 else 0
def d77:AK
 | [.agg [.int .i64 a,.int .i64 b,.int .u8 c],.agg [.int .i64 d,.int .i64 e,.int .u8 f]]=>some (True,.int .i64 (Xd (a,b,c) (d,e,f)))
 |_=>none
def FAf28:Fam:=⟨Int×Int×Int×Int×Int×Int,λ(a,b,c,d,e,f)=>[.agg [.int .i64 a,.int .i64 b,.int .u8 c],.agg [.int .i64 d,.int .i64 e,.int .u8 f]],λ(_,_,_,_,_,_)=>True,λ(a,b,c,d,e,f)=>.int .i64 (Xd (a,b,c) (d,e,f))⟩
theorem pAf28:PS 126 d77:=by
 refine con [] Dm FAf28 (λ_ _=>none) d77 ?_ ?_ Tryz.func126 Dk Dk Dk ?_
 .intro args pre s h g;unfold d77 at h;split at h
  .rename_i a b c d e f;cases h;exact⟨(a,b,c,d,e,f),by simp[FAf28,BG,SV.le2,SV.le1,BJ,SV.le0],g,rfl⟩
  .cases h
 .exact Bt
 .rintro⟨a,b,c,d,e,f⟩ g;replace g:True:=g;refine X0 _ ?_;(repeat' first|constructor|intro h)<;>refine Lm ?_
  all_goals(try simp only[I0,I7,I1]at*)
  all_goals(first
   |trivial
   |exact A4
   |(unfold Xd;dsimp only;first|rw[if_pos Dj]|rw[if_neg Dj])
   |skip)
def DK(a b:Mv):Mv:=⟨tt a.t b.t,(AL b.t a.x a.y).1+b.x,(AL b.t a.x a.y).2+b.y⟩
def BK(m:Mv)(c:Cl):Cl:=⟨(sq m.t c.x c.y).1+m.x,(sq m.t c.x c.y).2+m.y,tq m.t c.q⟩
def FL(m:Mv):Prop:=0<=m.t/\m.t<=7
def CP(c:Cl):Prop:=0<=c.q/\c.q<=3
def PA(m:Mv):Prop:=(m.x+m.y)%2=0
theorem LD{t:Int}(h:0<=t/\t<=7):t=0\/t=1\/t=2\/t=3\/t=4\/t=5\/t=6\/t=7:=Dj
theorem thG_t{a b:Mv}(c:FL a)(d:FL b):FL (DK a b):=tt_le c d
theorem XY{m:Mv}{c:Cl}(a:FL m)(b:CP c):CP (BK m c):=d93 (LD a) b
theorem tt_as0:(r8.all λa=>r8.all λb=>r8.all λc=>decide (tt (tt a b) c=tt a (tt b c)))=true:=by decide +kernel
theorem tt_as{a b c:Int}(d:0<=a/\a<=7)(e:0<=b/\b<=7)(f:0<=c/\c<=7):tt (tt a b) c=tt a (tt b c):=by have:=Iq.1 (Iq.1 (Iq.1 tt_as0 a (QT d)) b (QT e)) c (QT f);simpa using this
theorem lin_tt{t u a b:Int}(c:0<=t/\t<=7)(d:0<=u/\u<=7):AL (tt t u) a b=AL u (AL t a b).1 (AL t a b).2:=by rcases LD c with rfl|rfl|rfl|rfl|rfl|rfl|rfl|rfl<;>rcases LD d with rfl|rfl|rfl|rfl|rfl|rfl|rfl|rfl<;>simp[tt,tt.tbl,tb,AL]
theorem Mv.ext'{a b:Mv}(h1:a.t=b.t)(h2:a.x=b.x)(h3:a.y=b.y):a=b:=Hj
theorem Uo{a b c:Mv}(h:FL a)(e:FL b)(d:FL c):DK (DK a b) c=DK a (DK b c):=by
 have f:=@c9n c.t (AL b.t a.x a.y).1 (AL b.t a.x a.y).2 b.x b.y d;have g:=@lin_tt b.t c.t a.x a.y e d;refine Mv.ext' (tt_as h e d) ?_ ?_
 .show (AL c.t ((AL b.t a.x a.y).1+b.x) ((AL b.t a.x a.y).2+b.y)).1+c.x=(AL (tt b.t c.t) a.x a.y).1+((AL c.t b.x b.y).1+c.x);rw[f.1,g];omega
 .show (AL c.t ((AL b.t a.x a.y).1+b.x) ((AL b.t a.x a.y).2+b.y)).2+c.y=(AL (tt b.t c.t) a.x a.y).2+((AL c.t b.x b.y).2+c.y);rw[f.2,g];omega
theorem Wi{a b:Mv}{c:Cl}(d:FL a)(e:FL b)(f:CP c):BK (DK a b) c=BK b (BK a c):=by
 have:=@sq_tt a.t b.t c.x c.y a.x a.y (LD d) (LD e);refine Cl.ext' ?_ ?_ (tq_tt (LD d) (LD e) f)
 .show (sq (tt a.t b.t) c.x c.y).1+((AL b.t a.x a.y).1+b.x)=(sq b.t ((sq a.t c.x c.y).1+a.x) ((sq a.t c.x c.y).2+a.y)).1+b.x;omega
 .show (sq (tt a.t b.t) c.x c.y).2+((AL b.t a.x a.y).2+b.y)=(sq b.t ((sq a.t c.x c.y).1+a.x) ((sq a.t c.x c.y).2+a.y)).2+b.y;omega
theorem f4q{m:Mv}{c d:Cl}(h:FL m)(j:CP c)(k:CP d)(e:BK m c=BK m d):c=d:=by
 simp only[BK,Cl.mk.injEq]at e;obtain⟨g,i,f⟩:=e;have l:c.q=d.q:=by rcases LD h with e|e|e|e|e|e|e|e<;>simp only[e,tq]at f<;>rcases EJ j with a|a|a|a<;>rcases EJ k with b|b|b|b<;>rw[a,b]at f⊢ <;>revert f<;>decide
 refine Cl.ext' ?_ ?_ l<;>(rcases LD h with e|e|e|e|e|e|e|e<;>simp only[e,sq]at g i<;>simp at g i<;>omega)
def Bl:Mv:=⟨0,0,0⟩
theorem d0s{a:Mv}(b:FL a):DK a Bl=a/\DK Bl a=a:=by obtain⟨t,x,y⟩:=a;rcases LD b with h|h|h|h|h|h|h|h<;>(simp only at h;subst h;simp[DK,Bl,tt,tt.tbl,tb,AL])
def Rb(t:Int):Int:=tb [0,3,2,1,4,5,6,7] t.toNat
def QD(m:Mv):Mv:=⟨Rb m.t,-(AL (Rb m.t) m.x m.y).1,-(AL (Rb m.t) m.x m.y).2⟩
theorem inv_t{m:Mv}(h:FL m):FL (QD m):=by show 0<=Rb m.t/\Rb m.t<=7;unfold Rb;rcases LD h with e|e|e|e|e|e|e|e<;>rw[e]<;>decide
theorem d2h{m:Mv}(h:FL m):DK m (QD m)=Bl/\DK (QD m) m=Bl:=by obtain⟨t,x,y⟩:=m;rcases LD h with e|e|e|e|e|e|e|e<;>(simp only at e;subst e;simp[DK,Bl,QD,Rb,tt,tt.tbl,tb,AL];try omega)
theorem f1x{a b:Mv}(c:PA a)(hb:PA b):PA (DK a b):=by unfold PA at*;have:=@d01 b.t a.x a.y c;show ((AL b.t a.x a.y).1+b.x+((AL b.t a.x a.y).2+b.y))%2=0;omega
def BC(K C:Int):Mv:=⟨(GS K C).1,(GS K C).2.1,(GS K C).2.2⟩
theorem c2f{K:Int}(h:1<=K/\K<=4):K=1\/K=2\/K=3\/K=4:=Dj
theorem YK(K C:Int):BC K C=⟨4,2*C,0⟩\/BC K C=⟨6,0,2*C⟩\/BC K C=⟨5,C,C⟩\/BC K C=⟨7,-C,C⟩:=by
 unfold BC GS;by_cases a:K=1
 .simp[a]
 by_cases b:K=2
 .simp[b]
 by_cases c:K=3
 .simp[c]
 .simp[a,b,c]
theorem IZ{K C:Int}:FL (BC K C):=by rcases YK K C with h|h|h|h<;>(rw[h];unfold FL;simp)
theorem f7a{K C:Int}:PA (BC K C):=by rcases YK K C with h|h|h|h<;>(rw[h];unfold PA;dsimp only;omega)
theorem d1a{K C:Int}:DK (BC K C) (BC K C)=Bl:=by rcases YK K C with h|h|h|h<;>(rw[h];simp[DK,Bl,tt,tt.tbl,tb,AL]<;>omega)
theorem c70{K C t:Int}(a:0<=t/\t<=7):(tt t (BC K C).t<4↔¬t<4)/\(tt (BC K C).t t<4↔¬t<4):=by rcases YK K C with h|h|h|h<;>(rw[h];rcases LD a with rfl|rfl|rfl|rfl|rfl|rfl|rfl|rfl<;>dsimp only<;>decide)
theorem Qc{K C:Int}{c:Cl}(a:CP c):BK (BC K C) (BK (BC K C) c)=c:=by rw[<-Wi IZ IZ a,d1a];obtain⟨x,y,q⟩:=c;rcases EJ a with h|h|h|h<;>(simp only at h;subst h;simp[BK,Bl,sq,tq,tb])
def KO(c:Cl)(e:Int):Mv:=BC (CM c.q e) (CY c.x c.y c.q e)
def NX(t e:Int):Int:=if e=0 then 0 else if t=0\/t=2\/t=5\/t=7 then e else 3-e
theorem TK{t e:Int}(he:0<=e/\e<3):0<=NX t e/\NX t e<3:=by unfold NX;split<;>(try split)<;>omega
theorem d8k{c:Cl}{e:Int}(a:CP c)(b:0<=e/\e<3):CP (AP c e):=(LQ a b).2.2
theorem cm_bey{m:Mv}{c:Cl}{e:Int}(b:FL m)(d:CP c)(f:0<=e/\e<3):BK m (AP c e)=AP (BK m c) (NX m.t e):=by obtain⟨X,Y,Q⟩:=c;obtain⟨t,x,y⟩:=m;rcases EJ d with h|h|h|h<;>rcases GN f with rfl|rfl|rfl<;>rcases LD b with a|a|a|a|a|a|a|a<;>(simp only at h a;subst h;subst a;simp[NX,BK,AP,sq,tq,DR,DU,DW,tb];try omega)
theorem b7q{c:Cl}{e:Int}(a:CP c)(b:0<=e/\e<3):BK (KO c e) c=AP c e:=by obtain⟨X,Y,Q⟩:=c;rcases EJ a with h|h|h|h<;>rcases GN b with rfl|rfl|rfl<;>(simp only at h;subst h;simp[KO,BC,GS,CM,CY,HU,JL,BK,AP,sq,tq,DR,DU,DW,tb];try omega)
theorem d6b{c:Cl}{e:Int}(a:CP c)(b:0<=e/\e<3):BK (KO c e) (AP c e)=c:=by rw[<-b7q a b];exact Qc a
theorem d5d{m:Mv}{c:Cl}{e:Int}(b:FL m)(d:CP c)(f:0<=e/\e<3):DK (KO c e) m=DK m (KO (BK m c) (NX m.t e)):=by obtain⟨X,Y,Q⟩:=c;obtain⟨t,x,y⟩:=m;rcases EJ d with h|h|h|h<;>rcases GN f with rfl|rfl|rfl<;>rcases LD b with a|a|a|a|a|a|a|a<;>(simp only at h a;subst h;subst a;simp[NX,DK,KO,BC,GS,CM,CY,HU,JL,BK,tt,tt.tbl,AL,sq,tq,tb];try omega)
def Tj(K _ X Y Q:Int):Int:=tb [0,GW X Q,GZ Y Q,GW X Q+GZ Y Q,GZ Y Q-GW X Q] K.toNat
def CU(K C:Int)(c:Cl):Int:=if Tj K C c.x c.y c.q<6*C then 0 else 1
theorem PU{K C:Int}{c:Cl}:CU K C c=0\/CU K C c=1:=by unfold CU;split<;>simp
theorem RJ{K C:Int}{c:Cl}(a:1<=K/\K<=4)(b:CP c):CU K C (BK (BC K C) c)=1-CU K C c:=by obtain⟨X,Y,Q⟩:=c;rcases c2f a with rfl|rfl|rfl|rfl<;>rcases EJ b with h|h|h|h<;>(simp only at h;subst h;simp[CU,Tj,BC,GS,BK,sq,tq,tb,GW,GZ]<;>(repeat' split)<;>omega)
theorem sd_on{c:Cl}{e:Int}(a:CP c)(b:0<=e/\e<3):CU (CM c.q e) (CY c.x c.y c.q e) (AP c e)=1-CU (CM c.q e) (CY c.x c.y c.q e) c:=by rw[<-b7q a b];refine RJ ?_ a;obtain⟨X,Y,Q⟩:=c;rcases EJ a with h|h|h|h<;>rcases GN b with rfl|rfl|rfl<;>(simp only at h;subst h;simp[CM,HU,tb])
theorem sd_off{K C:Int}{c:Cl}{e:Int}(b:1<=K/\K<=4)(d:CP c)(f:0<=e/\e<3)(h:¬(CM c.q e=K/\CY c.x c.y c.q e=C)):CU K C (AP c e)=CU K C c:=by obtain⟨X,Y,Q⟩:=c;rcases c2f b with rfl|rfl|rfl|rfl<;>rcases EJ d with a|a|a|a<;>rcases GN f with rfl|rfl|rfl<;>(simp only at a;subst a;simp[CM,CY,HU,JL,tb]at h;simp[CU,Tj,AP,DR,DU,DW,tb,GW,GZ]<;>(repeat' split)<;>omega)
def CV(c:Cl):Int×Int×Int:=(c.x,c.y,c.q)
theorem d3d{c:Cl}{e:Int}(a:CP c)(b:0<=e/\e<3):GA (CV c) (CV (AP c e))=(CM c.q e,CY c.x c.y c.q e):=by obtain⟨X,Y,Q⟩:=c;rcases EJ a with h|h|h|h<;>rcases GN b with rfl|rfl|rfl<;>(simp only at h;subst h;simp[CV,GA,CM,CY,HU,JL,AP,DR,DU,DW,tb]<;>(first|omega|(rw[Ii Dj];simp only[Prod.mk.injEq,Mn];omega)))
theorem f7f{c:Cl}{e:Int}(a:CP c)(b:0<=e/\e<3):(⟨(EC (CV c) (CV (AP c e))).1,(EC (CV c) (CV (AP c e))).2.1,(EC (CV c) (CV (AP c e))).2.2⟩:Mv)=KO c e:=by obtain⟨X,Y,Q⟩:=c;rcases EJ a with h|h|h|h<;>rcases GN b with rfl|rfl|rfl<;>(simp only at h;subst h;simp[CV,EC,KO,BC,GS,CM,CY,HU,JL,AP,DR,DU,DW,tb]<;>(first|omega|(rw[Ii Dj];simp;omega)|skip))
theorem Vg{m:Mv}{c:Cl}(h:vM m)(a:(-4200<=c.x/\c.x<=4200)/\(-4200<=c.y/\c.y<=4200)/\0<=c.q/\c.q<=3):DF m c=BK m c:=HY h a
theorem vM_of{m:Mv}(a:FL m)(hp:PA m)(hx: -16384<=m.x/\m.x<=16384)(hy: -16384<=m.y/\m.y<=16384):vM m:=by unfold FL PA at*;refine⟨a.1,?_⟩;unfold DA;rw[Ih Dj]
theorem PR{m:Mv}(h:vM m):FL m:=by have:=FC h;unfold FL;omega
theorem th_ok{a b:Mv}(d:vM a)(c:vM b)(g: -16384<=(DK a b).x/\(DK a b).x<=16384)(h: -16384<=(DK a b).y/\(DK a b).y<=16384):GK a.t a.x a.y b.t b.x b.y=0/\GG a b=DK a b:=by
 have e:=@b3g b.t a.x a.y (FC c);have i:=f3w (FC d) (FC c);have j:=vM_of (thG_t (PR d) (PR c)) (f1x (OH d).2.2 (OH c).2.2) g h;have f:GK a.t a.x a.y b.t b.x b.y=0:=by unfold GK;rw[Ih ⟨d.2,c.2⟩];unfold KZ;rw[Ih];rw[i,e.1,e.2];exact j.2
 exact⟨f,(UQ d.1 c.1 f).1⟩
theorem ref_M{K C:Int}(b:1<=K/\K<=4)(a: -4096<=C/\C<=4096):EG K C=BC K C/\vM (BC K C):=by
 rcases c2f b with rfl|rfl|rfl|rfl
 .exact f3u a
 .exact f78 a
 .exact ref_u a
 .exact ref_d a
structure PlcG (p:Pt) (P:Int->Mv):Prop where
 ok:∀i,AU p i->FL (P i)/\PA (P i)
 cr:∀i e,AU p i->(0<=e/\e<3)->AQ p.W p.H i e=0->P (AF p.W p.H i e)=if Al p i e=0 then P i else DK (KO (AH p.W p.H i) e) (P i)
def AV(p:Pt)(P:Int->Mv)(i:Int):Cl:=BK (P i) (AH p.W p.H i)
def BX(p:Pt)(P:Int->Mv)(i e:Int):Cl:=BK (P i) (AP (AH p.W p.H i) e)
section
variable{p p':Pt}{P:Int->Mv}
theorem LN(hs:AM p.W p.H=0){i:Int}(hi:AU p i):CP (AH p.W p.H i):=(IH hs hi.1 hi.2).2.2.1
theorem KH(hs:AM p.W p.H=0){i e:Int}(hi:AU p i)(a:0<=e/\e<3)(b:AQ p.W p.H i e=0):AU p (AF p.W p.H i e)/\AH p.W p.H (AF p.W p.H i e)=AP (AH p.W p.H i) e/\AQ p.W p.H (AF p.W p.H i e) e=0/\AF p.W p.H (AF p.W p.H i e) e=i:=
 ⟨(FT hs hi.1 hi.2 a b).1,(FT hs hi.1 hi.2 a b).2,Pc hs hi.1 hi.2 a b⟩
theorem MQ(hs:AM p.W p.H=0)(G:PlcG p P){i:Int}(hi:AU p i):CP (AV p P i):=XY (G.ok i hi).1 (LN hs hi)
theorem c66(hs:AM p.W p.H=0)(G:PlcG p P){i e:Int}(hi:AU p i)(a:0<=e/\e<3):BX p P i e=AP (AV p P i) (NX (P i).t e):=cm_bey (G.ok i hi).1 (LN hs hi) a
theorem NA(hs:AM p.W p.H=0)(G:PlcG p P){i e:Int}(hi:AU p i)(a:0<=e/\e<3)(b:AQ p.W p.H i e=0)(d:Al p i e=0):P (AF p.W p.H i e)=P i/\AV p P (AF p.W p.H i e)=BX p P i e/\BX p P (AF p.W p.H i e) e=AV p P i:=by
 have h:=G.cr i e hi a b;rw[Ih d]at h;obtain⟨n1,c,_⟩:=KH hs hi a b;refine⟨h,?_,?_⟩
 .unfold AV BX;rw[h,c]
 .unfold AV BX;rw[h,c,Tz (LN hs hi) a]
theorem OX(hs:AM p.W p.H=0)(G:PlcG p P){i e:Int}(hi:AU p i)(b:0<=e/\e<3)(f:AQ p.W p.H i e=0)(j:Al p i e≠0):AV p P (AF p.W p.H i e)=AV p P i/\BX p P (AF p.W p.H i e) e=BX p P i e/\((P (AF p.W p.H i e)).t<4↔¬(P i).t<4):=by
 have h:=G.cr i e hi b f;rw[Ii j]at h;obtain⟨n1,g,_⟩:=KH hs hi b f;have c:=LN hs hi;have d:=(G.ok i hi).1;refine⟨?_,?_,?_⟩
 .unfold AV;rw[h,g,Wi (a:=KO (AH p.W p.H i) e) IZ d (d8k c b),d6b c b]
 .unfold BX;rw[h,g,Tz c b,Wi (a:=KO (AH p.W p.H i) e) IZ d c,b7q c b]
 .rw[h];exact(c70 d).2
abbrev CI(p:Pt)(P:Int->Mv)(K C sd i:Int):Prop:=CU K C (AV p P i)=sd
def EU(p:Pt)(P:Int->Mv)(K C sd:Int)(i:Int):Mv:=if CI p P K C sd i then DK (P i) (BC K C)else P i
abbrev JD(p:Pt)(P:Int->Mv)(K C i e:Int):Prop:=GA (CV (AV p P i)) (CV (BX p P i e))=(K,C)
theorem c5z(hs:AM p.W p.H=0)(G:PlcG p P){K C i e:Int}(hi:AU p i)(a:0<=e/\e<3):JD p P K C i e↔CM (AV p P i).q (NX (P i).t e)=K/\CY (AV p P i).x (AV p P i).y (AV p P i).q (NX (P i).t e)=C:=by unfold JD;rw[c66 hs G hi a,d3d (MQ hs G hi) (TK a)];exact Iff.of_eq (Prod.mk.injEq ..)
theorem on_mir(hs:AM p.W p.H=0)(G:PlcG p P){K C i e:Int}(hi:AU p i)(a:0<=e/\e<3)(b:JD p P K C i e):DK (KO (AH p.W p.H i) e) (P i)=DK (P i) (BC K C):=by obtain⟨c,d⟩:=(c5z hs G hi a).1 b;rw[d5d (G.ok i hi).1 (LN hs hi) a];show DK (P i) (BC (CM (AV p P i).q _) (CY (AV p P i).x (AV p P i).y (AV p P i).q _))=_;rw[c,d]
theorem on_sd(hs:AM p.W p.H=0)(G:PlcG p P){K C i e:Int}(hi:AU p i)(a:0<=e/\e<3)(d:JD p P K C i e):CU K C (BX p P i e)=1-CU K C (AV p P i)/\BX p P i e=BK (BC K C) (AV p P i):=by obtain⟨b,c⟩:=(c5z hs G hi a).1 d;have:=@sd_on (AV p P i) (NX (P i).t e) (MQ hs G hi) (TK a);rw[b,c]at this;rw[c66 hs G hi a];refine⟨this,?_⟩;rw[<-b7q (MQ hs G hi) (TK a)];unfold KO;rw[b,c]
theorem d9y(hs:AM p.W p.H=0)(G:PlcG p P){K C i e:Int}(b:1<=K/\K<=4)(hi:AU p i)(a:0<=e/\e<3)(c:¬JD p P K C i e):CU K C (BX p P i e)=CU K C (AV p P i):=by rw[c66 hs G hi a];exact sd_off b (MQ hs G hi) (TK a) λh=>c ((c5z hs G hi a).2 h)
structure FdK (p p':Pt) (P:Int->Mv) (K C:Int) (nk:Int->Int->Int):Prop where
 W:p'.W=p.W
 H:p'.H=p.H
 kd:∀i e,AU p i->(0<=e/\e<3)->AQ p.W p.H i e=0->Al p' i e=if Al p i e≠0 then Al p i e else if JD p P K C i e then nk i e else 0
 nz:∀i e,nk i e≠0
theorem d9n(hs:AM p.W p.H=0)(G:PlcG p P){K C sd:Int}(u:1<=K/\K<=4)(hsd:sd=0\/sd=1){v:Int->Int->Int}(F:FdK p p' P K C v):PlcG p' (EU p P K C sd):=by
 have o:∀i,AU p' i->AU p i:=λi h=>by unfold AU at*;rw[F.W,F.H]at h;exact h
 refine⟨λi l=> ?_,λi e l c f=> ?_⟩
 .obtain⟨q,r⟩:=G.ok i (o i l);unfold EU;split
  .exact⟨thG_t q IZ,f1x r f7a⟩
  .exact⟨q,r⟩
 .have b:=o i l;rw[F.W,F.H]at f⊢;have d:=F.kd i e b c f;have j:=(G.ok i b).1;by_cases k0:Al p i e=0
  .obtain⟨k,m,w⟩:=NA hs G b c f k0;rw[Ii (λh=>h k0)]at d;by_cases g:JD p P K C i e
   .rw[Ih g]at d;rw[Ii (by rw[d];exact F.nz i e)];obtain⟨n,s2⟩:=on_sd hs G b c g;have s:=on_mir hs G b c g;unfold EU CI;rw[k,m,n];have Zv:=@PU K C (AV p P i);by_cases t:CU K C (AV p P i)=sd
    .rw[Ih t,Ii Dj,<-Uo (a:=KO (AH p.W p.H i) e) IZ j IZ,s,Uo j IZ IZ,d1a,(d0s j).1]
    .rw[Ii t,Ih Dj,s]
   .rw[Ii g]at d;rw[Ih d];have n:=d9y hs G u b c g;unfold EU CI;rw[k,m,n]
  .obtain⟨k,m,w⟩:=OX hs G b c f k0;rw[Ih k0]at d;rw[Ii (by rw[d];exact k0)];have h:=G.cr i e b c f;rw[Ii k0]at h;unfold EU CI;rw[k,h];split
   .exact Uo IZ j IZ
   .rfl
theorem UP(hs:AM p.W p.H=0)(G:PlcG p P){K C sd i:Int}(hi:AU p i)(b:p'.W=p.W)(c:p'.H=p.H):AV p' (EU p P K C sd) i=if CI p P K C sd i then BK (BC K C) (AV p P i)else AV p P i:=by
 show BK (EU p P K C sd i) (AH p'.W p'.H i)=_;rw[b,c];unfold EU;by_cases a:CI p P K C sd i
 .rw[Ih a,Ih a,Wi (G.ok i hi).1 IZ (LN hs hi)];rfl
 .rw[Ii a,Ii a];rfl
theorem fd_ot(hs:AM p.W p.H=0)(G:PlcG p P){K C sd i e:Int}(hi:AU p i)(b:0<=e/\e<3)(c:p'.W=p.W)(d:p'.H=p.H):BX p' (EU p P K C sd) i e=if CI p P K C sd i then BK (BC K C) (BX p P i e)else BX p P i e:=by
 show BK (EU p P K C sd i) (AP (AH p'.W p'.H i) e)=_;rw[c,d];unfold EU;by_cases a:CI p P K C sd i
 .rw[Ih a,Ih a,Wi (G.ok i hi).1 IZ (d8k (LN hs hi) b)];rfl
 .rw[Ii a,Ii a];rfl
theorem fd_up(G:PlcG p P){K C sd i:Int}(hi:AU p i):((EU p P K C sd i).t<4)↔(if CI p P K C sd i then¬(P i).t<4 else(P i).t<4):=by
 unfold EU;by_cases a:CI p P K C sd i
 .rw[Ih a,Ih a];exact(c70 (G.ok i hi).1).1
 .rw[Ii a,Ii a]
end
section
variable{p:Pt}
theorem TY{i e:Int}(h:BF p=0)(o:AQ p.W p.H i e=0){x:Cr}(hx:x∈p.l)(g:GF (DJ p.W p.H i e) x=true):Al p i e=x.k:=by
 have q:=b7i h;have r:HP p i e=0:=by simp[HP,h,o]
 have s:KM p i e=KE p.l (DT p.W p.H i e) (ER p.W p.H i e):=by simp[KM,r]
 unfold Al;rw[s];unfold DJ at g;generalize DT p.W p.H i e=a at*;generalize ER p.W p.H i e=b at*;obtain⟨j,hj,rfl⟩:=Jg.1 hx;have d:a=p.l[j].c/\b=p.l[j].e:=by simpa[GF]using g
 have f:p.l.getD j d0=p.l[j]:=Gx;have m:JS (p.l.getD j d0) a b=0:=by
  rw[f];unfold JS;try unfold HZ
  rw[d.1,d.2];simp
 have n:HQ p.l a b=j:=c6h p.l j Dj (λk t=>by have:=q k j t hj;rw[f,<-d.1,<-d.2]at this;exact this) (λ_=>Dj)
 have u:KE p.l a b=true:=by unfold KE;rw[n];rw[f]at m;simp[hj,m]
 rw[u,n,f];rfl
theorem c32{i e:Int}(h:BF p=0)(a:AQ p.W p.H i e=0)(b:Dl p.l (DJ p.W p.H i e)=false):Al p i e=0:=by
 by_cases k:Al p i e=0
 .exact k
 .have:=(Ur h a).2 k;rw[b]at this;cases this
theorem d4z{q:List Int}(h:Dl p.l q=true):∃x∈p.l,GF q x=true:=J3.1 h
theorem f1y{i e:Int}(h:BF p=0)(j:AQ p.W p.H i e=0):MK p.l (DJ p.W p.H i e)=Al p i e:=by
 cases hc:Dl p.l (DJ p.W p.H i e)with
 |false=>rw[f16 hc,c32 h j hc]
 |true=>
  have g:∀(l:List Cr) (a:Int),(∀x∈l,GF (DJ p.W p.H i e) x=true->x.k=Al p i e)->(a=Al p i e\/∃x∈l,GF (DJ p.W p.H i e) x=true)->l.foldl (λa c=>if GF (DJ p.W p.H i e) c=true then c.k else a) a=Al p i e:=by
   intro l;induction l with
   |nil=>
    intro a _ b;rcases b with b|⟨x,hx,_⟩
    .exact b
    .simp at hx
   |cons y l n=>
    intro a m b;rw[Lb];refine n _ (λx hx=>m x (Je _ hx)) ?_;by_cases d:GF (DJ p.W p.H i e) y=true
    .rw[Ih d];exact .inl (m y Dm d)
    .rw[Ii d];rcases b with b|⟨x,hx,f⟩
     .exact .inl b
     .rcases Iv.1 hx with rfl|hx
      .exact absurd f d
      .exact .inr ⟨x,hx,f⟩
  exact g p.l 0 (λx hx f=>(TY h j hx f).symm) (.inr (d4z hc))
end
def DG(q e:Int):Nat:=if e=0 then 0 else if(q=0\/q=2)↔e=1 then 1 else 2
theorem Oz{q e:Int}:DG q e<3:=by
 unfold DG;split
 .omega
 .split<;>omega
theorem VF{q e:Int}(a:0<=q/\q<=3)(b:0<=e/\e<3)(k:Nat)(hk:k<3):kE q k=e↔k=DG q e:=by have c:k=0\/k=1\/k=2:=Dj;rcases EJ a with rfl|rfl|rfl|rfl<;>rcases GN b with rfl|rfl|rfl<;>rcases c with rfl|rfl|rfl<;>simp[kE,DG]
theorem SC{q e:Int}(a:0<=q/\q<=3)(b:0<=e/\e<3):kE q (DG q e)=e:=(VF a b _ Oz).2 rfl
abbrev uA(j:Nat):Int:=((j/3:Nat):Int)
abbrev uE(j:Nat):Int:=kE (uA j%4) ((j%3:Nat):Int)
def JG(W H:Int)(l:List Cr)(j:Nat):Int:=if AQ W H (uA j) (uE j)=0 then MK l (DJ W H (uA j) (uE j))else 0
def Hl(p:Pt):List Int:=(List.range (3*AG p.W p.H)).map λj=>JG p.W p.H p.l j
end Go.Proofs.YtngppkidkigcbaaGreatDoor.V
