/-
  Parts of the proof: C9b C9c C9 C10 C11a C11 C12 C13 C14 C30 Y1 Y2 Y3 Y4 Y5 Y6 Y7 Y8 D5 D6. Conditions: none.
-/
import Derived.Test.YtaihldljnlgnoaaGreatDoorSmc5
import Derived.Test.YtaihldljnlgnoaaGreatDoorSmc7
import Derived.Test.YtaihldljnlgnoaaGreatDoorSmc8
set_option maxRecDepth 100000
set_option maxHeartbeats 40000000
namespace Go.Proofs
open Go Go.Lib Go.RowKit Go.Shelf Go.Sort
shelf_lay_g SlLaysF0.n6 Slsf 6 at Tryz 106 as Tryz.sortKey
end Go.Proofs
namespace Go.Proofs.YtaihldljnlgnoaaGreatDoor.V
open Go
def CH(p:Pt)(r:Mv)(L:List Stk):Bd:=⟨p,BR p r,CA p r,IA L (AF p.W p.H)⟩
def FB(b:Bd):Nat->List Sm
 |0=>[]
 |k+1=>HG b ((k/3:Nat):Int) ((k%3:Nat):Int) (FB b k)
def DB(s:Sm)(d:Int):Cl:=if d=0 then s.a else s.b
def Pq(s:Sm)(d:Int):Cl:=if d=0 then s.b else s.a
def AR(p:Pt)(u:Int):Prop:=0<=u/\u<4*p.W*p.H
def VR(p:Pt)(r:Mv)(x y:Int)(c:Cl):Prop:=∃e,(0<=e/\e<3)/\GD p r x e=c/\AW p.W p.H x e=0/\y=AH p.W p.H x e
def PsOK(p:Pt)(r:Mv)(s:Sm)(x:Pa):Prop:=(AR p x.a/\AR p x.b)/\(CO p r x.a=s.a/\CO p r x.b=s.b)/\VR p r x.a x.b s.b/\VR p r x.b x.a s.a
def Wq(p:Pt)(r:Mv)(s:Sm)(x:Lo):Prop:=(x.s=0\/x.s=1)/\(AR p x.a/\AR p x.b)/\(CO p r x.a=DB s x.s/\CO p r x.b=DB s x.s)/\VR p r x.a x.b (Pq s x.s)/\VR p r x.b x.a (Pq s x.s)
structure SmOK (p:Pt) (r:Mv) (s:Sm):Prop where
 ab:AZ (BC s.a) (BC s.b)<0
 va:vC s.a
 vb:vC s.b
 ps:∀x∈s.ps,PsOK p r s x
 ls:∀x∈s.ls,Wq p r s x
 en:∀x∈s.en,AR p x
section
variable{p:Pt}{r:Mv}{L:List Stk}
theorem imS_of(u:Int):FD (CH p r L) u=CO p r u:=rfl
theorem f9h(S:SkOK p r L){u e:Int}(a:AR p u)(b:0<=e/\e<3):FX (CH p r L) u e=GD p r u e:=by
 obtain⟨g1,g,g3⟩:=Tz S a.1 a.2;obtain⟨i,_,_⟩:=Xm S a.1 a.2 b;have j:=f51 S.hs a.1 a.2 b;have c:GF (BT p.W p.H u) (BU p.W p.H u) (BZ p.W p.H u) e=0:=j;have k:JG (BT p.W p.H u) (BU p.W p.H u) (BZ p.W p.H u) e=(AU (AJ p.W p.H u) e).x:=by simp[JG,c,AU,AJ]
 have l:JI (BT p.W p.H u) (BU p.W p.H u) (BZ p.W p.H u) e=(AU (AJ p.W p.H u) e).y:=by simp[JI,c,AU,AJ]
 have m:ID (BT p.W p.H u) (BU p.W p.H u) (BZ p.W p.H u) e=(AU (AJ p.W p.H u) e).q:=by simp[ID,c,AU,AJ]
 have n:=WD S.hs a.1 a.2;have hb:=MW n.2.2 b;have o:DQ (AU (AJ p.W p.H u) e).x (AU (AJ p.W p.H u) e).y (AU (AJ p.W p.H u) e).q=0:=Gu;have ed:DQ (GD p r u e).x (GD p r u e).y (GD p r u e).q=0:=by unfold vC at i;unfold DQ;rw[if_pos];omega
 have em:GG (AM p r u).t (AM p r u).x (AM p r u).y (AU (AJ p.W p.H u) e).x (AU (AJ p.W p.H u) e).y (AU (AJ p.W p.H u) e).q=0:=by unfold GG;rw[Jf ⟨g.2,o⟩,Jf];exact ed
 show (⟨keep _ _,keep _ _,keep _ _⟩:Cl)=_;simp only[CH];rw[k,l,m];have f:GG ((BR p r).getD u.toNat AE.d).t ((BR p r).getD u.toNat AE.d).x ((BR p r).getD u.toNat AE.d).y (AU (AJ p.W p.H u) e).x (AU (AJ p.W p.H u) e).y (AU (AJ p.W p.H u) e).q=0:=em;simp only[keep,f,Kt];rfl
theorem f6u{a b:Cl}(h:a≠b):AZ (BC a) (BC b)<0\/AZ (BC b) (BC a)<0:=by
 have:=IG (BC a) (BC b);by_cases e:AZ (BC a) (BC b)=0
 .exact absurd (b95 (NV _ _ e)) h
 .omega
theorem lohi{x y:Cl}(h:x≠y):AZ (BC (On x y)) (BC (Od x y))<0/\((On x y=x/\Od x y=y)\/(On x y=y/\Od x y=x)):=by
 unfold On Od;rw[Ut];have:=IG (BC x) (BC y);rcases f6u h with a|a
 .rw[Jg E4,Jg E4];exact⟨a,.inl ⟨rfl,rfl⟩⟩
 .rw[Jf E4,Jf E4];exact⟨a,.inr ⟨rfl,rfl⟩⟩
theorem c2k{s t:Sm}(h:CJ s=CJ t):s.a=t.a/\s.b=t.b:=by simp only[CJ,J7]at h;exact⟨Cl.ext' h.1 h.2.1 h.2.2.1,Cl.ext' h.2.2.2.1 h.2.2.2.2.1 h.2.2.2.2.2⟩
theorem b9n{S:List Sm}{q:List Int}(h:DP S q=true):CJ (S.getD (DM S q) BG)=q:=by have a:=OL h;have:=List.findIdx_getElem (p:=λs=>decide (CJ s=q)) (xs:=S) (w:=a);rw[Jd,Je a];unfold DM;simpa using this
theorem c11(S:SkOK p r L){u e:Int}(a:AR p u)(b:0<=e/\e<3)(c:AW p.W p.H u e=0)(k:BB p u e=0):
 AR p (AH p.W p.H u e)/\CO p r (AH p.W p.H u e)=GD p r u e/\GD p r (AH p.W p.H u e) e=CO p r u/\AW p.W p.H (AH p.W p.H u e) e=0/\AH p.W p.H (AH p.W p.H u e) e=u:=by
 have hN:=CQ S.hs;obtain⟨d,g⟩:=GL S.hs a.1 a.2 b c;have h:=Qy S.hs a.1 a.2 b c;have f:((u.toNat:Nat):Int)=u:=by have:=a.1;omega
 have i:=S.P.pass u.toNat e (by have:=a.1;have:=a.2;omega) b (by rw[f];exact c) (by rw[f];exact k);rw[f]at i;have j:AM p r (AH p.W p.H u e)=AM p r u:=i;have l:=(Tz S d.1 d.2).1;have m:=(Tz S a.1 a.2).1;refine⟨d,?_,?_,h.1,h.2⟩
 .rw[l,j,g];rfl
 .unfold GD;rw[j,g,VS (WD S.hs a.1 a.2).2.2 b,m]
theorem c1p(S:SkOK p r L){u e:Int}(a:AR p u)(b:0<=e/\e<3)(d:AW p.W p.H u e=0)(i:BB p u e≠0):
 AR p (AH p.W p.H u e)/\CO p r (AH p.W p.H u e)=CO p r u/\GD p r (AH p.W p.H u e) e=GD p r u e/\AW p.W p.H (AH p.W p.H u e) e=0/\AH p.W p.H (AH p.W p.H u e) e=u:=by
 have hN:=CQ S.hs;obtain⟨j,g⟩:=GL S.hs a.1 a.2 b d;have h:=Qy S.hs a.1 a.2 b d;have f:((u.toNat:Nat):Int)=u:=by have:=a.1;omega
 have c:=S.P.loop u.toNat e (by have:=a.1;have:=a.2;omega) b (by rw[f];exact d) (by rw[f];exact i);rw[f]at c;obtain⟨c,k⟩:=c;refine⟨j,c,?_,h.1,h.2⟩;show CL (AM p r (AH p.W p.H u e)) (AU (AJ p.W p.H (AH p.W p.H u e)) e)=CL (AM p r u) (AU (AJ p.W p.H u) e);rw[g,VS (WD S.hs a.1 a.2).2.2 b,<-g];exact k
theorem add_ok(S:SkOK p r L){u e:Int}(g:AR p u)(f:0<=e/\e<3){s:Sm}(h:SmOK p r s)(A:(s.a=CO p r u/\s.b=GD p r u e)\/(s.a=GD p r u e/\s.b=CO p r u)):SmOK p r (JE (CH p r L) u e s):=by
 have B:=(Xm S g.1 g.2 f).2.1;unfold JE;show SmOK p r (if AW p.W p.H u e=0 then _ else _);split;rotate_left
 .exact⟨h.ab,h.va,h.vb,h.ps,h.ls,λx hx=>by
   rcases Ka.1 hx with hx|hx
   .exact h.en x hx
   .rw[K4.1 hx];exact g⟩
 rename_i j;show SmOK p r (if AH p.W p.H u e<u then _ else _);split
 .exact h
 rename_i b6;show SmOK p r (if BB p u e=0 then _ else _);split
 .rename_i z;obtain⟨g1,k,l,m,n⟩:=c11 S g f j z;refine⟨h.ab,h.va,h.vb,λx hx=> ?_,h.ls,h.en⟩;rcases Ka.1 hx with hx|hx
  .exact h.ps x hx
  .rw[K4]at hx;have hx:x=if CO p r u=s.b then⟨AH p.W p.H u e,u⟩else⟨u,AH p.W p.H u e⟩:=hx;rcases A with⟨i,c⟩|⟨i,c⟩
   .rw[Jg (by rw[c];exact λq=>B q.symm)]at hx;subst hx;exact⟨⟨g,g1⟩,⟨i.symm,k.trans c.symm⟩,⟨e,f,c.symm,j,rfl⟩,⟨e,f,l.trans i.symm,m,n.symm⟩⟩
   .rw[Jf c.symm]at hx;subst hx;exact⟨⟨g1,g⟩,⟨k.trans i.symm,c.symm⟩,⟨e,f,l.trans c.symm,m,n.symm⟩,⟨e,f,i.symm,j,rfl⟩⟩
 .rename_i z;obtain⟨g1,k,l,m,n⟩:=c1p S g f j z;refine⟨h.ab,h.va,h.vb,h.ps,λx hx=> ?_,h.en⟩;rcases Ka.1 hx with hx|hx
  .exact h.ls x hx
  .rw[K4]at hx;have o:∀d:Int,(d=0\/d=1)->DB s d=CO p r u->Pq s d=GD p r u e->Wq p r s ⟨d,u,AH p.W p.H u e⟩/\Wq p r s ⟨d,AH p.W p.H u e,u⟩:=λd C w y=>
    ⟨⟨C,⟨g,g1⟩,⟨w.symm,k.trans w.symm⟩,⟨e,f,y.symm,j,rfl⟩,⟨e,f,l.trans y.symm,m,n.symm⟩⟩,
     ⟨C,⟨g1,g⟩,⟨k.trans w.symm,w.symm⟩,⟨e,f,l.trans y.symm,m,n.symm⟩,⟨e,f,y.symm,j,rfl⟩⟩⟩
   have hx:x=⟨if CO p r u=s.b then 1 else 0,if(CH p r L).ht.getD u.toNat 0<(CH p r L).ht.getD (AH p.W p.H u e).toNat 0 then u else AH p.W p.H u e,if(CH p r L).ht.getD u.toNat 0<(CH p r L).ht.getD (AH p.W p.H u e).toNat 0 then AH p.W p.H u e else u⟩:=hx;have t:Wq p r s ⟨if CO p r u=s.b then 1 else 0,u,AH p.W p.H u e⟩/\Wq p r s ⟨if CO p r u=s.b then 1 else 0,AH p.W p.H u e,u⟩:=by
    rcases A with⟨i,c⟩|⟨i,c⟩
    .rw[Jg (by rw[c];exact λq=>B q.symm)];exact o 0 (.inl rfl) (by simp[DB,i]) (by simp[Pq,c])
    .rw[Jf c.symm];exact o 1 (.inr rfl) (by simp[DB,c]) (by simp[Pq,i])
   rcases Classical.em ((CH p r L).ht.getD u.toNat 0<(CH p r L).ht.getD (AH p.W p.H u e).toNat 0)with v|v
   .rw[Jf v,Jf v]at hx;rw[hx];exact t.1
   .rw[Jg v,Jg v]at hx;rw[hx];exact t.2
theorem at_ok(S:SkOK p r L){u e:Int}(f:AR p u)(i:0<=e/\e<3){T:List Sm}(h:∀s∈T,SmOK p r s):(∀s∈Do T (CO p r u) (GD p r u e),SmOK p r s)/\
 ∀s,CJ s=JQ (CO p r u) (GD p r u e)->(s.a=CO p r u/\s.b=GD p r u e)\/(s.a=GD p r u e/\s.b=CO p r u):=by
 have l:=(Xm S f.1 f.2 i).2.1;have g:=lohi (Ne.symm l);have j:=(Tz S f.1 f.2).2.2;have k:=(Xm S f.1 f.2 i).1;refine⟨λs hs=> ?_,λs hs=> ?_⟩
 .unfold Do at hs;split at hs
  .exact h s hs
  .rcases Ka.1 hs with hs|hs
   .exact h s hs
   .rw[K4.1 hs];refine⟨g.1,?_,?_,λx hx=>by simp at hx,λx hx=>by simp at hx,λx hx=>by simp at hx⟩
    .rcases g.2 with⟨c,d⟩|⟨c,d⟩
     .show vC (On _ _);rw[c];exact j
     .show vC (On _ _);rw[c];exact k
    .rcases g.2 with⟨c,d⟩|⟨c,d⟩
     .show vC (Od _ _);rw[d];exact k
     .show vC (Od _ _);rw[d];exact j
 .obtain⟨c,d⟩:=c2k (t:=⟨On (CO p r u) (GD p r u e),Od (CO p r u) (GD p r u e),[],[],[]⟩) hs;rw[c,d];exact g.2
theorem mem_set{α:Type}{l:List α}{i:Nat}{x y:α}(h:y∈l.set i x):y=x\/y∈l:=by
 rcases Mi h with h|h
 .exact .inr h
 .exact .inl h
theorem f76(S:SkOK p r L){u e:Int}(a:AR p u)(b:0<=e/\e<3){T:List Sm}(h:∀s∈T,SmOK p r s):∀s∈HG (CH p r L) u e T,SmOK p r s:=by
 intro s hs;unfold HG at hs;rw[imS_of,f9h S a b]at hs;obtain⟨c,f⟩:=at_ok S a b h;have d:=VO T (CO p r u) (GD p r u e);have g:=b9n d;rcases mem_set hs with rfl|hs
 .exact add_ok S a b (c _ (CY (OL d))) (f _ g)
 .exact c s hs
theorem XQ(S:SkOK p r L):∀k,k<=3*AF p.W p.H->∀s∈FB (CH p r L) k,SmOK p r s
 |0,_,s,hs=>by simp[FB]at hs
 |k+1,hk,s,hs=>by have hN:=CQ S.hs;exact f76 S (u:=((k/3:Nat):Int)) (e:=((k%3:Nat):Int)) ⟨E4,E4⟩ ⟨E4,E4⟩ (XQ S k E4) s hs
theorem d1u(S:SkOK p r L){x y z:Int}{c:Cl}(hx:AR p x)(a:VR p r x y c)(b:VR p r x z c):y=z:=by obtain⟨e,d,o1,_,rfl⟩:=a;obtain⟨e',f,o2,_,rfl⟩:=b;rw[g00 S hx.1 hx.2 d f (o1.trans o2.symm)]
theorem ps_inj(S:SkOK p r L){s:Sm}(h:SmOK p r s):∀x∈s.ps,∀y∈s.ps,PE (IA L (AF p.W p.H)) x=PE (IA L (AF p.W p.H)) y->x=y:=by intro x hx y g e;obtain⟨⟨c,a2⟩,⟨i,i2⟩,g1,_⟩:=h.ps x hx;obtain⟨⟨j,b2⟩,⟨k,j2⟩,d,_⟩:=h.ps y g;simp only[PE,J7]at e;have b:x.a=y.a:=f3z S c j (show CO p r x.a=CO p r y.a by rw[i,k]) e;rw[<-b]at d;have f:=d1u S c g1 d;cases x;cases y;simp only at b f;rw[b,f]
theorem ls_inj(S:SkOK p r L){s:Sm}(h:SmOK p r s):∀x∈s.ls,∀y∈s.ls,Pm (IA L (AF p.W p.H)) x=Pm (IA L (AF p.W p.H)) y->x=y:=by intro x hx y i e;obtain⟨_,⟨d,a2⟩,⟨j,i2⟩,g1,_⟩:=h.ls x hx;obtain⟨_,⟨k,b2⟩,⟨l,j2⟩,f,_⟩:=h.ls y i;simp only[Pm,J7]at e;obtain⟨b,e⟩:=e;have c:x.a=y.a:=f3z S d k (show CO p r x.a=CO p r y.a by rw[j,l,b]) e;rw[<-c,<-b]at f;have g:=d1u S d g1 f;cases x;cases y;simp only at c g b;rw[c,g,b]
theorem d5e(T:List Sm)(x y:Cl):(Do T x y).length<=T.length+1:=by unfold Do;split<;>simp
def RJ(s:Sm)(k:Nat):Prop:=s.ps.length<=k/\s.ls.length<=k/\s.en.length<=k
theorem d80{b:Bd}{u e:Int}{s:Sm}{k:Nat}(h:RJ s k):RJ (JE b u e s) (k+1):=by
 unfold RJ at*;unfold JE;repeat' split
 all_goals(try simp only[J5])
 all_goals omega
theorem Tl(b:Bd):∀k,(FB b k).length<=k/\∀s∈FB b k,RJ s k
 |0=>⟨Jm _,λs hs=>by simp[FB]at hs⟩
 |k+1=>by
  obtain⟨h1,a⟩:=Tl b k;have c:∀s∈Do (FB b k) (FD b ((k/3:Nat):Int)) (FX b ((k/3:Nat):Int) ((k%3:Nat):Int)),RJ s k:=by
   intro s hs;unfold Do at hs;split at hs
   .exact a s hs
   .rcases Ka.1 hs with hs|hs
    .exact a s hs
    .rw[K4.1 hs];exact⟨Js _,Js _,Js _⟩
  refine⟨?_,λs hs=> ?_⟩
  .show (HG _ _ _ _).length<=_;rw[c6c];have:=d5e (FB b k) (FD b ((k/3:Nat):Int)) (FX b ((k/3:Nat):Int) ((k%3:Nat):Int));omega
  .have hs:s∈HG b ((k/3:Nat):Int) ((k%3:Nat):Int) (FB b k):=hs;unfold HG at hs;rcases mem_set hs with rfl|hs
   .exact d80 (c _ (CY (OL (VO _ _ _))))
   .have:=c s hs;unfold RJ at*;omega
theorem d41(S:SkOK p r L){s:Sm}(h:SmOK p r s)(b:RJ s 100000):c92 (CH p r L) s:=by
 have hN:=CQ S.hs;refine⟨b,⟨λx hx=> ?_,λx hx=> ?_⟩,ps_inj S h,ls_inj S h⟩
 .have:=(h.ps x hx).1.1;unfold AR at this;show 0<=x.a/\x.a<((IA L (AF p.W p.H)).length:Int);rw[Xh];omega
 .have:=(h.ls x hx).2.1.1;unfold AR at this;show 0<=x.a/\x.a<((IA L (AF p.W p.H)).length:Int);rw[Xh];omega
end
section
open Go.Sort Go.Proofs Go.Shelf
def WB:AK
 | [.agg [.int .i64 a,.int .i64 b,.int .u8 c,.int .i64 d,.int .i64 e,.int .u8 f],.agg [.int .i64 i,.int .i64 j,.int .u8 g,.int .i64 k,.int .i64 l,.int .u8 h]]=>some ((AD .u8 c/\AD .u8 f)/\AD .u8 g/\AD .u8 h,.int .i64 (LQ [FY a b c i j g,FY d e f k l h]))
 |_=>none
def FOf1:Fam:=⟨(Int×Int×Int×Int×Int×Int)×Int×Int×Int×Int×Int×Int,λ((a,b,c,d,e,f),i,j,g,k,l,h)=>[.agg [.int .i64 a,.int .i64 b,.int .u8 c,.int .i64 d,.int .i64 e,.int .u8 f],.agg [.int .i64 i,.int .i64 j,.int .u8 g,.int .i64 k,.int .i64 l,.int .u8 h]],
 λ((_,_,c,_,_,f),_,_,g,_,_,h)=>(AD .u8 c/\AD .u8 f)/\AD .u8 g/\AD .u8 h,λ((a,b,c,d,e,f),i,j,g,k,l,h)=>.int .i64 (LQ [FY a b c i j g,FY d e f k l h])⟩
theorem pOf1:PS 107 WB:=by
 refine con [(100,Rx),(108,YI)] (by simpa using⟨b10,pOrL⟩) FOf1 (λ_ _=>none) WB ?_ ?_ Tryz.func107 E5 E5 E5 ?_
 .intro args pre s h g;unfold WB at h;split at h
  .rename_i a b c d e f l m j n o k;cases h;exact⟨((a,b,c,d,e,f),l,m,j,n,o,k),by simp[FOf1,BN,SV.le2,SV.le1,BJ,SV.le0],g,rfl⟩
  .cases h
 .exact C3
 .rintro⟨⟨a,b,c,d,e,f⟩,l,m,j,n,o,k⟩ g;replace g:(AD .u8 c/\AD .u8 f)/\AD .u8 j/\AD .u8 k:=g;refine X0a _ ?_;(repeat' first|constructor|intro h)<;>refine Lm ?_
  all_goals(first
   |exact⟨g.1.1,g.2.1⟩
   |exact⟨g.1.2,g.2.2⟩
   |rfl
   |exact⟨λi q=>match i,q with
    |0,_=>rfl
    |1,_=>rfl,E4⟩
   |omega
   |skip)
def OO(k:Ky):List Int:=BC k.a++BC k.b
theorem d51{x y:Ky}(h:OO x=OO y):x=y:=by simp only[OO,BC,Mm,Nh,J7]at h;cases x;cases y;simp only at h;rw[Cl.ext' h.2.1 h.1 h.2.2.1,Cl.ext' h.2.2.2.2.1 h.2.2.2.1 h.2.2.2.2.2]
theorem c2t:∀(a b c d:List Int),a.length=b.length->AZ (a++c) (b++d)=if AZ a b=0 then AZ c d else AZ a b
 | [],[],c,d,_=>by simp[AZ]
 |x::a,y::b,c,d,h=>by
  by_cases e:x=y
  .simp only[Mm,AZ,e,Kt];exact c2t a b c d Ea
  .have f:CT x y≠0:=by unfold CT;split<;>(try split)<;>omega
   simp[AZ,e,f]
 | [],_::_,_,_,h=>Ee
 |_::_,[],_,_,h=>Ee
theorem g1n(x y:Ky):LQ [FY x.a.x x.a.y x.a.q y.a.x y.a.y y.a.q,FY x.b.x x.b.y x.b.q y.b.x y.b.y y.b.q]=AZ (OO x) (OO y):=by
 rw[Ut,Ut,OO,OO,c2t (BC x.a) (BC y.a) (BC x.b) (BC y.b) rfl];simp only[LQ];split
 .split<;>simp_all
 .rfl
def kyQ(k:Ky):Prop:=AD .u8 k.a.q/\AD .u8 k.b.q
def b9g:KZ:=λ_ b n g a=>match a with
 | [.clo f []]=>if f=107/\b=6 then some (Gl.is n g/\n<=100000/\(∀x∈Gl.lst n g,kyQ x),Gl.row (GY OO (Gl.lst n g)),false)else none
 |_=>none
theorem g11:ES 106 b9g:=by
 refine g1s Gl Tryz.sortKey rfl ⟨_,Tryz.func106,E5,E5⟩ (λw=>Tryz.isAgg193 w) (λw=>Tryz.sizeOf193 w) (λ_=>rfl) (λx s hs=> ?_) WB pOf1 (enters_of Tryz.func107 E5 rfl) b9g ?_
 .simp[Gl]at hs;rcases hs with rfl|rfl|rfl|rfl|rfl|rfl<;>exact⟨_,_,rfl⟩
 .intro T sz n g rest pre g' r h;unfold b9g at h;split at h;rotate_left
  .cases h
  rename_i f;split at h;rotate_left
  .cases h
  rename_i d;obtain⟨rfl,rfl⟩:=d;cases h;refine⟨rfl,rfl,[],OO,rfl,λc=>⟨c.1,c.2.1,λx hx y i=> ?_,λx _ y _ e=>d51 e,rfl⟩⟩;refine⟨(AD .u8 x.a.q/\AD .u8 x.b.q)/\AD .u8 y.a.q/\AD .u8 y.b.q,?_,c.2.2 x hx,c.2.2 y i⟩;show WB [.agg [.int .i64 x.a.x,.int .i64 x.a.y,.int .u8 x.a.q,.int .i64 x.b.x,.int .i64 x.b.y,.int .u8 x.b.q],.agg [.int .i64 y.a.x,.int .i64 y.a.y,.int .u8 y.a.q,.int .i64 y.b.x,.int .i64 y.b.y,.int .u8 y.b.q]]=_;simp only[WB,g1n]
def KV(s:Sm):List SV:=[.int .i64 s.a.x,.int .i64 s.a.y,.int .u8 s.a.q,.int .i64 s.b.x,.int .i64 s.b.y,.int .u8 s.b.q,.sl 2 s.ps.length (Bo.row s.ps) none,.sl 3 s.ls.length (BW.row s.ls) none,.sl 1 s.en.length (AC.row s.en) none]
def smRd:List SV->Sm
 | [.int _ a,.int _ b,.int _ c,.int _ d,.int _ e,.int _ f,x,y,z]=>⟨⟨a,b,c⟩,⟨d,e,f⟩,match Bo.as x with|some (n,f)=>Bo.lst n f|none=>[],match BW.as y with|some (n,f)=>BW.lst n f|none=>[],match AC.as z with|some (n,f)=>AC.lst n f|none=>[]⟩
 |_=>BG
theorem f60(s:Sm):smRd (KV s)=s:=by have a:Bo.as (.sl 2 s.ps.length (Bo.row s.ps) none)=some (s.ps.length,Bo.row s.ps):=rfl;have b:BW.as (.sl 3 s.ls.length (BW.row s.ls) none)=some (s.ls.length,BW.row s.ls):=rfl;have c:AC.as (.sl 1 s.en.length (AC.row s.en) none)=some (s.en.length,AC.row s.en):=rfl;simp only[smRd,KV,a,b,c,RT.lst_row]
def GA:RT Sm:=⟨9,KV,smRd,BG,f60⟩
def GE(p:Pt)(r:Mv)(L:List Stk):List Sm:=if CZ p r L=0 then
    (GY OO ((FB (CH p r L) (3*AF p.W p.H)).map LM)).map λk=>LP (CH p r L) ((FB (CH p r L) (3*AF p.W p.H)).getD (DM (FB (CH p r L) (3*AF p.W p.H)) (CJ (sN k.a k.b))) BG)
 else []
end
def rSeOf(p:Pt)(r:Mv)(L:List Stk):SV:=.tup [.sl 9 (GE p r L).length (GA.row (GE p r L)) none,.int .i64 (CZ p r L)]
def d8q:AK
 | [x,y,z]=>match Qz [x,y],IQ z with
   |some q,some s=>some (q.1/\s.1/\(∀t∈s.2,AD .u8 t.c.q)/\(BX s.2).length<=100000,rSeOf q.2.1 q.2.2 s.2)
   |_,_=>none
 |_=>none
def FSeOf:Fam:=⟨Pt×Mv×List Stk,λ(p,r,L)=>[IH p,MQ r,FI L],λ(p,r,L)=>prOK p r/\EV L,λ(p,r,L)=>rSeOf p r L⟩
def RG(L:List Stk)(i k:Nat):List (Int×Nat):=SE (L.take i)++((L.getD i AA.d).l.zipIdx).take k
def MD(L:List Stk)(n i k:Nat):List Int:=(RG L i k).foldl RK (List.replicate n 0)
theorem b6d(L:List Stk)(n i k:Nat):(MD L n i k).length=n:=by simp[MD,b8v]
theorem c74(L:List Stk)(i:Nat):RG L i 0=SE (L.take i):=by simp[RG]
theorem d7t{L:List Stk}{i:Nat}(hi:i<L.length):RG L i (L.getD i AA.d).l.length=RG L (i+1) 0:=by
 rw[c74];have:L.take (i+1)=L.take i++[L.getD i AA.d]:=by rw[Mb];simp[hi]
 rw[this];unfold RG SE;rw[List.flatMap_append];have e:List.take (L.getD i AA.d).l.length (L.getD i AA.d).l.zipIdx=(L.getD i AA.d).l.zipIdx:=Lp E6;rw[e];simp
theorem f0s{L:List Stk}{n i k:Nat}(a:k<(L.getD i AA.d).l.length):MD L n i (k+1)=(MD L n i k).set ((L.getD i AA.d).l.getD k 0).toNat (k:Int):=by
 have:RG L i (k+1)=RG L i k++[((L.getD i AA.d).l.getD k 0,k)]:=by unfold RG;rw[Mb,<-N1];congr 1;rw[List.getElem?_zipIdx,Je a,Jd (l:=(L.getD i AA.d).l),Je a];simp
 unfold MD;rw[this,List.foldl_append];rfl
theorem g0d(L:List Stk)(n:Nat):MD L n L.length 0=IA L n:=by unfold MD IA;rw[c74,Lp (Jm _)]
def Yq(p:Pt)(r:Mv)(b:List Int)(S:List Sm)(ks:SV)(a:List Blk):List Blk:=.cells 29 [.int .i64 p.W,.int .i64 p.H,.sl 3 p.l.length (DZ p.l) none]::.cells 31 [.int .u8 r.t,.int .i64 r.x,.int .i64 r.y]::.row 3 1 b.length (AC.row b) none::
 .pmap (.ints [.i64,.i64,.u8,.i64,.i64,.u8]) 5 (DP S) (DM S)::
 .cells 188 [.int .i64 p.W,.int .i64 p.H,.sl 3 p.l.length (DZ p.l) none,.sl 3 (BR p r).length (AE.row (BR p r)) none,.sl 3 (CA p r).length (Co.row (CA p r)) none,.osl 2,.omp 3,ks]::
 .fam 156 [(229,2),(158,3),(3,1)] S.length none (λi=>JW (S.getD i BG))::a
theorem d7i{L:List Stk}{n i:Nat}(hi:i<L.length):MD L n i (L.getD i AA.d).l.length=MD L n (i+1) 0:=by unfold MD;rw[d7t hi]
theorem c4q{l:List Int}{m:Nat}{x:Int}(h:m<l.length)(j:Nat):DW (decide (j=m)) [SV.int .i64 x] (AC.row l j)=AC.row (l.set m x) j:=by
 by_cases e:j=m
 .rw[K2 e,b14 AC h e];rfl
 .rw[K5 e,b3g AC e];rfl
theorem d52(S:List Sm):Gl.lst S.length (JZ S)=S.map LM:=by have h:JZ S=Gl.row (S.map LM):=Ms (d6i S);have:=RT.lst_row Gl (S.map LM);rw[h];simpa using this
theorem d91(s:Sm):CJ (sN (LM s).a (LM s).b)=CJ s:=rfl
theorem c2d(b:Bd):∀k,((FB b k).map CJ).Nodup
 |0=>Na
 |k+1=>by
  have a:=c2d b k;show ((HG b _ _ _).map CJ).Nodup;rw[b44];unfold Do;split
  .exact a
  .rename_i h;rw[Mf];refine List.nodup_append.2 ⟨a,E6,λx hx y c e=> ?_⟩;simp only[L3,List.map_nil,K4]at c;subst e;subst c;apply h;rw[TZ];exact Jz.2 ⟨_,hx,by simp[JQ]⟩
def IF(b:Bd)(S:List Sm)(K:List Ky):Nat->List Sm
 |0=>S
 |i+1=>(IF b S K i).set (DM (IF b S K i) (CJ (sN (K.getD i Gl.d).a (K.getD i Gl.d).b))) (LP b ((IF b S K i).getD (DM (IF b S K i) (CJ (sN (K.getD i Gl.d).a (K.getD i Gl.d).b))) BG))
def HA(p:Pt)(r:Mv)(L:List Stk):List Sm:=FB (CH p r L) (3*AF p.W p.H)
def DX(p:Pt)(r:Mv)(L:List Stk):List Ky:=GY OO ((HA p r L).map LM)
section
variable{b:Bd}{S:List Sm}{K:List Ky}
def qK(K:List Ky)(i:Nat):List Int:=CJ (sN (K.getD i Gl.d).a (K.getD i Gl.d).b)
theorem b4v:∀i,(IF b S K i).map CJ=S.map CJ
 |0=>rfl
 |i+1=>by show ((IF b S K i).set _ _).map CJ=_;rw[b25 _ _ _ (c8u b _),b4v i]
theorem c87(i:Nat):(IF b S K i).length=S.length:=by simpa using Md List.length (b4v (b:=b) (S:=S) (K:=K) i)
theorem d9s(i:Nat)(q:List Int):DP (IF b S K i) q=DP S q:=by rw[TZ,TZ,b4v]
theorem b2v(i:Nat)(q:List Int):DM (IF b S K i) q=DM S q:=by rw[Vx,Vx,b4v]
theorem b94(a:∀i,i<K.length->DP S (qK K i)=true)(d:∀i j,i<j->j<K.length->qK K i≠qK K j):∀i j,i<=j->j<K.length->(IF b S K i).getD (DM S (qK K j)) BG=S.getD (DM S (qK K j)) BG
 |0,j,_,_=>rfl
 |i+1,j,h1,c=>by
  show ((IF b S K i).set (DM (IF b S K i) (qK K i)) _).getD _ _=_;have f:=a i E4;have k:DM (IF b S K i) (qK K i)<(IF b S K i).length:=by rw[b2v,c87];exact OL f
  rw[b19 k,b2v,Jg,b94 a d i j E4 c];intro e;have l:=b9n f;have g:=b9n (a j c);rw[e]at g;exact d i j E4 c (l.symm.trans g)
end
theorem c95(b:Bd){u e:Nat}(he:e<3):FB b (3*u+e+1)=HG b (u:Int) (e:Int) (FB b (3*u+e)):=by show HG b _ _ _=_;rw[show (3*u+e)/3=u from E4,show (3*u+e)%3=e from E4]
section
variable{p:Pt}{r:Mv}{L:List Stk}
theorem d99{k:Ky}:k∈DX p r L↔∃s∈HA p r L,LM s=k:=by unfold DX;rw[SJ,Jx]
theorem VK{i:Nat}(h:i<(DX p r L).length):DP (HA p r L) (qK (DX p r L) i)=true:=by obtain⟨s,hs,e⟩:=d99.1 (CY (d:=Gl.d) h);unfold qK DP;rw[<-e];exact Jz.2 ⟨s,hs,by simp[d91]⟩
theorem qK_inj{x y:Ky}(h:CJ (sN x.a x.b)=CJ (sN y.a y.b)):x=y:=by obtain⟨c,d⟩:=c2k h;cases x;cases y;simp only at c d;rw[c,d]
theorem d4h{i j:Nat}(d:i<j)(c:j<(DX p r L).length):qK (DX p r L) i≠qK (DX p r L) j:=by
 have f:(DX p r L).Nodup:=by
  have g:((HA p r L).map LM).Nodup:=by
   have:=c2d (CH p r L) (3*AF p.W p.H);have e:((HA p r L).map LM).map (λk=>CJ (sN k.a k.b))=(HA p r L).map CJ:=by rw[Lh];rfl
   have c:(((HA p r L).map LM).map (λk=>CJ (sN k.a k.b))).Nodup:=by rw[e];exact this
   exact(Kw.1 c).imp (λl e=>l (by rw[e]))
  exact(Um _ _).nodup_iff.2 g
 intro e;have:=qK_inj e;rw[Jd,Jd,Je E4,Je c]at this;exact(Kg.1 (show List.Pairwise (λx y=>x≠y) _ from f)) i j E4 c d this
theorem f9p(S:SkOK p r L)(a:prOK p r){k u e:Nat}(hk:k<=3*AF p.W p.H)(ji:u<AF p.W p.H)(he:e<3):bdIn (CH p r L) (FB (CH p r L) k) (u:Int) (e:Int):=by
 have hN:=CQ S.hs;have hs:=Tl (CH p r L) k;refine⟨a.1,⟨E4,E4⟩,⟨E4,?_,?_,?_⟩,λb=> ?_,c24 a.2.1,λc f=> ?_,E4,λs h=> ?_⟩
 .show (u:Int)<((BR p r).length:Int);rw[S.P.pl];omega
 .show (u:Int)<((CA p r).length:Int);rw[S.P.il];omega
 .show (u:Int)<((IA L (AF p.W p.H)).length:Int);rw[Xh];omega
 .have:=(GL S.hs (i:=(u:Int)) (e:=(e:Int)) E4 E4 ⟨E4,E4⟩ b).1;show 0<=AH p.W p.H u e/\AH p.W p.H u e<((IA L (AF p.W p.H)).length:Int);rw[Xh];omega
 .obtain⟨i,g,rfl⟩:=QX (d:=Co.d) (show c∈CA p r from f);have j:i<AF p.W p.H:=by rw[<-S.P.il];exact g
  have:=(S.P.im i j).2.2.2;show 0<=_/\_<=255;omega
 .have:=hs.2 s h;unfold RJ at this;omega
theorem seam_q(S:SkOK p r L){k:Nat}(c:k<=3*AF p.W p.H):∀x∈(FB (CH p r L) k).map LM,kyQ x:=by intro x hx;obtain⟨s,hs,rfl⟩:=Jx.1 hx;have h:=XQ S k c s hs;have d:=h.va.2.2;have e:=h.vb.2.2;exact⟨⟨d.1,by show s.a.q<=255;omega⟩,⟨e.1,by show s.b.q<=255;omega⟩⟩
theorem b4k:(DX p r L).length=(HA p r L).length:=by simp[DX,Rc]
theorem f31(h:CZ p r L=0):GE p r L=(DX p r L).map λk=>LP (CH p r L) ((HA p r L).getD (DM (HA p r L) (CJ (sN k.a k.b))) BG):=by unfold GE;rw[Jf h];rfl
theorem c40(h:CZ p r L=0){i:Nat}(hi:i<(DX p r L).length):(GE p r L).getD i BG=LP (CH p r L) ((HA p r L).getD (DM (HA p r L) (qK (DX p r L) i)) BG):=by rw[f31 h,Jd,K1,Je hi];simp only[Kn,J4,qK,Je hi]
theorem b9p(h:CZ p r L=0):(GE p r L).length=(DX p r L).length:=by rw[f31 h,Ke]
end
def ISeOf:Pt×Mv×List Stk->Nat->Option Inv
 |(p,r,L),8=>some {β:=Nat,ok:=λi=>i<=L.length,st:=λi=>⟨[⟨54,none,.int .i64 i⟩,⟨53,none,.int .i64 L.length⟩,⟨52,none,.sl 4 L.length (AA.row L) none⟩,⟨9,none,.own 4 0⟩],Yq p r (MD L (AF p.W p.H) i 0) [] (.con (.slice none 0 0)) []⟩,μ:=λi=>L.length-i,sub:=λi=>some fun|11=>some {β:=Nat,ok:=λk=>k<=(L.getD i AA.d).l.length,st:=λk=>⟨[⟨61,none,.int .i64 k⟩,⟨60,none,.int .i64 (L.getD i AA.d).l.length⟩,⟨59,none,.sl 1 (L.getD i AA.d).l.length (AC.row (L.getD i AA.d).l) none⟩,⟨54,none,.int .i64 i⟩,⟨53,none,.int .i64 L.length⟩,⟨52,none,.sl 4 L.length (AA.row L) none⟩,⟨9,none,.own 4 0⟩],Yq p r (MD L (AF p.W p.H) i k) [] (.con (.slice none 0 0)) []⟩,μ:=λk=>(L.getD i AA.d).l.length-k}|_=>none}
 |(p,r,L),17=>some {β:=Nat,ok:=λu=>u<=AF p.W p.H,st:=λu=>⟨[⟨80,none,.int .i64 u⟩,⟨79,none,.int .i64 (AF p.W p.H)⟩,⟨9,none,.own 4 0⟩],Yq p r (IA L (AF p.W p.H)) (FB (CH p r L) (3*u)) (.osl 6) [.row 193 6 (FB (CH p r L) (3*u)).length (JZ (FB (CH p r L) (3*u))) none]⟩,μ:=λu=>AF p.W p.H-u,nl:=[.cell 4 7 193 6],sub:=λu=>some fun|20=>some {β:=Nat,ok:=λe=>e<=3,st:=λe=>⟨[⟨83,none,.int .u8 e⟩,⟨14,none,.int .i64 u⟩,⟨80,none,.int .i64 u⟩,⟨79,none,.int .i64 (AF p.W p.H)⟩,⟨9,none,.own 4 0⟩],Yq p r (IA L (AF p.W p.H)) (FB (CH p r L) (3*u+e)) (.osl 6) [.row 193 6 (FB (CH p r L) (3*u+e)).length (JZ (FB (CH p r L) (3*u+e))) none]⟩,μ:=λe=>3-e}|_=>none}
 |(p,r,L),28=>some {β:=Nat,ok:=λi=>i<=(DX p r L).length,st:=λi=>⟨[⟨108,none,.int .i64 i⟩,⟨107,none,.int .i64 (DX p r L).length⟩,⟨106,none,.osl 6⟩,⟨16,none,.osl 7⟩,⟨9,none,.own 4 0⟩],Yq p r (IA L (AF p.W p.H)) (IF (CH p r L) (HA p r L) (DX p r L) i) (.osl 6) [.row 193 6 (DX p r L).length (Gl.row (DX p r L)) none,.row 156 9 (DX p r L).length (λj=>KV (upto (λj=>(GE p r L).getD j BG) (λ_=>BG) i j)) none]⟩,μ:=λi=>(DX p r L).length-i}
 |_,_=>none
def smCs(s:Sm):List SV:=[.int .i64 s.a.x,.int .i64 s.a.y,.int .u8 s.a.q,.int .i64 s.b.x,.int .i64 s.b.y,.int .u8 s.b.q,.sl 2 s.ps.length (Bo.row s.ps) (some s.ps.length),.sl 3 s.ls.length (BW.row s.ls) (some s.ls.length),.sl 1 s.en.length (AC.row s.en) (some s.en.length)]
theorem f9i{A:Nat->Sm}{B:Nat->Sm}{i:Nat}{s:Sm}(hs:A i=s)(j:Nat):GU (DW (decide (j=i)) (smCs s) (KV (upto A B i j))) (KV (upto A B (i+1) j)):=by
 by_cases e:j=i
 .subst e;rw[K2 rfl,show upto A B (j+1) j=s by simp[upto,hs]];generalize upto A B j j=t;right;simp[smCs,KV,DW,SB,lfL,SV.lf,HV]
 .rw[K5 e,show upto A B (i+1) j=upto A B i j by unfold upto;by_cases h:j<i;simp[h,show j<i+1 from E4];simp[h,show¬j<i+1 from E4]];left;rfl
theorem g0c:GU [.int .i64 0,.int .i64 0,.int .u8 0,.int .i64 0,.int .i64 0,.int .u8 0,.con (.slice none 0 0),.con (.slice none 0 0),.con (.slice none 0 0)] (KV BG):=by right;simp[KV,BG,lfL,SV.lf,HV]
theorem pSeOf:PS 74 d8q:=by
 refine NU {l:=[(85,We),(103,VQ),(104,c53),(71,XB)],x:=[(106,b9g)],h:=[(105,c5y),(109,b4h)],c2:=true,gr:=λid=>bif Nat.beq id 4 then [.newFam 3 156 [(229,2),(158,3),(3,1)]]else []} ⟨by simpa using⟨c2a,d2y,f7r,c41⟩,by simpa using g11,by simpa using⟨pBMeet,f24⟩⟩ FSeOf ISeOf d8q ?_ ?_ Tryz.func74 E5 E5 E5 ?_
 .intro args pre s h hp;unfold d8q at h;split at h
  .rename_i x y z;split at h
   .rename_i q t o w;cases h;obtain⟨q,p,r⟩:=q;obtain⟨u,L⟩:=t;obtain⟨a1,a2⟩:=c0b o hp.1;obtain⟨b1,b2⟩:=LD w hp.2.1;exact Du
   .cases h
  .cases h
 .exact C5
 .rintro⟨p,r,L⟩ ⟨c9,bu⟩;have hl:=bu.1.1;have hS:CZ p r L=0->SkOK p r L:=λh=>f17 h c9.2.1 bu.2.1;have G:CZ p r L=0->(AF p.W p.H:Int)=4*p.W*p.H/\AF p.W p.H<=1024/\4<=AF p.W p.H:=λh=>CQ (hS h).hs;have K:CZ p r L=0->EP p.W p.H=(AF p.W p.H:Int):=λh=>by rw[(G h).1];simp[EP,(hS h).hs]
  have P:CZ p r L≠0->GE p r L=[]:=λh=>by unfold GE;rw[if_neg h]
  refine X0a _ ?_;(repeat' first|constructor|intro h)<;>refine Lm ?_
  all_goals(try simp only[CR,RT.lst_row,b0i,Ya]at*)
  all_goals(first
   |exact Bb
   |exact Bu
   |exact λ_=>Ji
   |rfl
   |(rw[P E8];rfl)
   |(have:=K E8;have:=G E8;refine⟨E4,E4,SA E5 E4 E4,E4⟩)
   |skip)
  have g:CZ p r L=0:=E8;have c0:=K g;have n0:=G g;refine⟨(0:Nat),Js _,?_,?_⟩
  .refine X0a _ ?_;(repeat' first|constructor|intro h)<;>refine Lm ?_
   all_goals(try simp only[]at*)
   all_goals(first
    |exact Ag
    |(rw[b6d];omega)
    |exact Am
    |(intro j hj;show [SV.int .i64 0]=AC.sv _;rw[show MD L (AF p.W p.H) 0 0=List.replicate (AF p.W p.H) 0 from rfl];simp only[Jd,List.getElem?_replicate];split<;>rfl)
    |skip)
  .intro i m;replace m:i<=L.length:=m;have hg:=Pp bu.1 i;have I:i<L.length->∀v∈(L.getD i AA.d).l,0<=v/\v<(AF p.W p.H:Int):=λm v B=>by
    have:=(hS g).rg v (List.mem_flatMap.2 ⟨_,CY m,B⟩);omega
   refine X0a _ ?_;(repeat' first|constructor|intro h)<;>refine Lm ?_
   all_goals(try simp only[In]at*)
   all_goals(first|omega|skip)
   .have f:i<L.length:=E4;have I:=I f;refine⟨(0:Nat),Js _,?_,?_⟩
    .refine X0a _ ?_;(repeat' first|constructor|intro h)<;>refine Lm ?_
     all_goals first|exact Ag|exact Am|skip
    .intro k n;replace n:k<=(L.getD i AA.d).l.length:=n;have B:k<(L.getD i AA.d).l.length->0<=(L.getD i AA.d).l.getD k 0/\(L.getD i AA.d).l.getD k 0<(AF p.W p.H:Int):=λh=>I _ (CY h);have M:=b6d L (AF p.W p.H) i k;refine X0a _ ?_;(repeat' first|constructor|intro h)<;>refine Lm ?_
     all_goals(try simp only[In]at*)
     all_goals(first
      |exact As
      |(have:=B E4;show 0<=_/\_<((MD L (AF p.W p.H) i k).length:Int);rw[M];exact this)
      |(have:=B E4;show ((L.getD i AA.d).l.getD k 0).toNat<_;rw[M];omega)
      |skip)
     .have E:k<(L.getD i AA.d).l.length:=E4;have hvv:=B E;refine⟨k+1,by show k+1<=_;omega,Ff,?_⟩;refine X0a _ ?_;(repeat' first|constructor|intro h)<;>refine Lm ?_
      all_goals(first
       |exact Ag
       |(rw[b6d,b6d])
       |exact Am
       |(intro j hj
         rw[f0s E];have F:((L.getD i AA.d).l.getD k 0).toNat<(MD L (AF p.W p.H) i k).length:=by rw[b6d];omega
         exact c4q F j)
       |skip)
     .have E:k=(L.getD i AA.d).l.length:=E4;subst E;refine⟨i+1,Ei,Ef,?_⟩;rw[d7i f];refine X0a _ ?_;(repeat' first|constructor|intro h)<;>refine Lm ?_
      all_goals(first
       |exact Ag
       |exact Am
       |skip)
   .have f:i=L.length:=E4;subst f;refine⟨(0:Nat),Js _,?_,?_⟩
    .rw[g0d];refine X0a _ ?_;(repeat' first|constructor|intro h)<;>refine Lm ?_
     all_goals first|exact Ag|exact Am|(rw[Xh])|skip
    .intro u N;replace N:u<=AF p.W p.H:=N;refine X0a _ ?_;(repeat' first|constructor|intro h)<;>refine Lm ?_
     all_goals(try simp only[In]at*)
     all_goals(first
      |exact As
      |skip)
     .have C:u<AF p.W p.H:=E4;refine⟨(0:Nat),Js _,?_,?_⟩
      .refine X0a _ ?_;(repeat' first|constructor|intro h)<;>refine Lm ?_
       all_goals first|exact Ag|exact Bh|skip
      .intro e O;replace O:e<=3:=O;refine X0a _ ?_;(repeat' first|constructor|intro h)<;>refine Lm ?_
       all_goals(try simp only[In]at*)
       all_goals(first
        |exact A9
        |skip)
       .simp only[CR,RT.lst_row,Wj];refine⟨⟨⟨⟨EC _,c9.1.1⟩,RT.is_row AE _,RT.is_row Co _,RT.is_row AC _⟩,Ji,λ_ _=>Ji,λ_=>Ji,λ_ _=>Ji,λi m=> ?_⟩,f9p (hS g) c9 E4 C E4⟩;rw[b4g];exact UC _
       .simp only[CR,RT.lst_row,Wj];refine⟨e+1,by show e+1<=3;omega,Gt,?_⟩;have hs':FB (CH p r L) (3*u+(e+1))=HG (CH p r L) (u:Int) (e:Int) (FB (CH p r L) (3*u+e)):=c95 (CH p r L) E4;revert hs';generalize FB (CH p r L) (3*u+(e+1))=T;rintro rfl;exact X1a
       .have J:e=3:=E4;subst J;refine⟨u+1,by show u+1<=_;omega,by show _-(u+1)<_-u;omega,?_⟩;exact X1a
     .have C:u=AF p.W p.H:=E4;subst C;rw[d52];have:=(Tl (CH p r L) (3*AF p.W p.H)).1;exact⟨λ_ _=>rfl,E4,seam_q (hS g) (Jm _)⟩
     .have:=(Tl (CH p r L) (3*u)).1;refine⟨E4,E4,SA E5 E4 E4,E4⟩
     .have C:u=AF p.W p.H:=E4;subst C;rw[show FB (CH p r L) (3*AF p.W p.H)=HA p r L from rfl,d52,<-b4k,show GY OO (List.map LM (HA p r L))=DX p r L from rfl];refine⟨(0:Nat),Js _,?_,?_⟩
      .refine X0b _ ?_;(repeat' first|constructor|intro h)<;>refine Lm ?_
       all_goals(first
        |exact Ag
        |exact Bh
        |exact A8
        |exact λ_ _=>g0c
        |exact b4k
        |omega
        |skip)
      .intro i m;replace m:i<=(DX p r L).length:=m;refine X0b _ ?_;(repeat' first|constructor|intro h)<;>refine Lm ?_
       all_goals(try simp only[In]at*)
       all_goals(first
        |omega
        |(simp only[AD];have:=@b4k p r L;have:=(Tl (CH p r L) (3*AF p.W p.H)).1;have:(HA p r L).length=(FB (CH p r L) (3*AF p.W p.H)).length:=rfl;omega)
        |(show i<(DX p r L).length;omega)
        |skip)
       .have f:i<(DX p r L).length:=E4;have n:=VK f;simp only[CR,RT.lst_row,Wj];refine⟨⟨⟨⟨EC _,c9.1.1⟩,RT.is_row AE _,RT.is_row Co _,RT.is_row AC _⟩,RT.is_row Gl _,λ_=>Ji,λ_ _=>Ji,λj hj=> ?_⟩,?_,?_,?_⟩
        .rw[b4g];exact UC _
        .show DP (IF (CH p r L) (HA p r L) (DX p r L) i) (qK (DX p r L) i)=true;rw[d9s];exact n
        .show DM (IF (CH p r L) (HA p r L) (DX p r L) i) (qK (DX p r L) i)<(IF (CH p r L) (HA p r L) (DX p r L) i).length;rw[b2v,c87];exact OL n
        .show c92 (CH p r L) ((IF (CH p r L) (HA p r L) (DX p r L) i).getD (DM (IF (CH p r L) (HA p r L) (DX p r L) i) (qK (DX p r L) i)) BG);rw[b2v,b94 (λj hj=>VK hj) (λa b o w=>d4h o w) i i (Jm _) f];have F:=CY (d:=BG) (OL n);have hz:=(Tl (CH p r L) (3*AF p.W p.H)).2 _ F;refine d41 (hS g) (XQ (hS g) _ (Jm _) _ F) ?_;unfold RJ at*;omega
       .have f:i<(DX p r L).length:=E4;have n:=VK f;have Q:(GE p r L).getD i BG=LP (CH p r L) ((IF (CH p r L) (HA p r L) (DX p r L) i).getD (DM (IF (CH p r L) (HA p r L) (DX p r L) i) (qK (DX p r L) i)) BG):=by
         rw[c40 g f,b2v,b94 (λj hj=>VK hj) (λa b o w=>d4h o w) i i (Jm _) f]
        simp only[CR,RT.lst_row,Wj];refine⟨i+1,Ei,Ef,?_⟩;refine X0b _ ?_;(repeat' first|constructor|intro h)<;>refine Lm ?_
        all_goals(first
         |exact Ag
         |exact Bh
         |exact A8
         |exact λj _=>f9i (A:=λj=>(GE p r L).getD j BG) Q j
         |omega
         |skip)
       .exact(b9p g).symm
       .intro j hj;left;have:i=(DX p r L).length:=E4;subst this;show KV (upto _ _ _ j)=KV _;rw[b8i _ _ hj];rfl
def asSm:SV->Option (Prop×Sm)
 |.agg [.int .i64 a,.int .i64 b,.int .u8 c,.int .i64 d,.int .i64 e,.int .u8 f,x,y,z]=>match Bo.as x,BW.as y,AC.as z with
  |some u,some v,some w=>some (Bo.is u.1 u.2/\BW.is v.1 v.2/\AC.is w.1 w.2,⟨⟨a,b,c⟩,⟨d,e,f⟩,Bo.lst u.1 u.2,BW.lst v.1 v.2,AC.lst w.1 w.2⟩)
  |_,_,_=>none
 |_=>none
theorem d6r{x:SV}{q:Prop}{s:Sm}(h:asSm x=some (q,s))(g:q):x.le2 (.agg (KV s)):=by
 unfold asSm at h;split at h
 .rename_i a b c d e f x y z;split at h
  .rename_i u v w i j k;cases h;obtain⟨l,m,n⟩:=g;have o:=Bo.as_le i l;have r:=BW.as_le j m;have t:=AC.as_le k n;refine⟨E9,E9,E9,E9,E9,E9,o,r,t,Ji⟩
  .cases h
 .cases h
def d5c(l:List Int)(g:Bool):List Blk:=[.cells 37 [.sl 1 l.length (AC.row l) none],.cells 4 [.bool g]]
def hSp1:HK:=λa own=>match a,own with
 | [.int .i64 v,.own 0 0,.own 1 0],[.cells b [x],.cells c [.bool g]]=>if b=37/\c=4 then(AC.as x).map λq=>⟨AC.isL q.1 q.2/\q.1<=100000,.int .i64 (BV (AC.lst q.1 q.2) v),d5c (AC.lst q.1 q.2) (g&&decide (0<=BV (AC.lst q.1 q.2) v)),[]⟩else none
 |_,_=>none
def FSp1:FamH:=⟨(Int×List Int)×Bool,λ((v,_),_)=>[.int .i64 v,.own 0 0,.own 1 0],λ((_,l),g)=>d5c l g,λ((_,l),_)=>l.length<=100000,λ((v,l),_)=>.int .i64 (BV l v),λ((v,l),g)=>d5c l (g&&decide (0<=BV l v)),[]⟩
theorem pSp1:HS 150 hSp1:=by
 refine HX {l:=[(151,b9c)]} ⟨by simpa using g19,E6,E6⟩ FSp1 (λ_ _=>none) hSp1 ?_ ?_ ?_ Tryz.func150 E5 E5 E5 ?_
 .intro args own r h a;unfold hSp1 at h;split at h
  .rename_i v T1 x T2 g;split at h
   .rename_i b;obtain⟨rfl,rfl⟩:=b;simp only[Jk]at h;obtain⟨⟨n,f⟩,hx,rfl⟩:=h;have c:=AC.as_leL hx a.1;refine⟨((v,AC.lst n f),g),⟨Ec,Ec,Ec,Ji⟩,rfl,⟨⟨Ev,c,Ji⟩,⟨Ev,E9,Ji⟩,Ji⟩,by show (AC.lst n f).length<=100000;rw[RT.lst_length];exact a.2,rfl,rfl,rfl⟩
   .cases h
  .cases h
 .exact C5
 .intro i;show 2<=2;decide
 .rintro⟨⟨v,l⟩,g⟩ μ a;replace a:l.length<=100000:=a;refine X0a _ ?_;(repeat' first|constructor|intro h)<;>refine Lm ?_
  all_goals(try simp only[RT.lst_row]at*)
  all_goals(first
   |exact⟨RT.isL_row AC _,a⟩
   |exact A5
   |skip)
theorem IZ{α:Type}{L:List α}{i:Nat}{d:α}(h:i<L.length):L.take (i+1)=L.take i++[L.getD i d]:=by rw[Mb];simp[h]
theorem d8d{α:Type}{R:RT α}{L:List α}{i:Nat}{c:List SV}(h:i<L.length)(a:c=R.sv (L.getD i R.d)):∀j,j<i+1->(if j<i then R.row (L.take i) j else(List.map (λx:Nat×List SV=>x.snd) [(0,c)].reverse).getD (j-i) [])=R.row (L.take (i+1)) j:=by have e:(L.take i).length=i:=F7;have:=Vv (R:=R) (l:=L.take i) (x:=L.getD i R.d) a;rwa[<-IZ h,e]at this
def FT(d:Int)(x:Pa):Int:=if d=0 then x.a else x.b
def OY(s:Sm)(d:Int)(l:List Int):List Int:=s.ps.map λx=>BV l (FT d x)
def Ps(l:List Int)(x:Lo):Pa:=⟨min (BV l x.a) (BV l x.b),max (BV l x.a) (BV l x.b)⟩
def HW(d:Int)(L:List Lo):List Lo:=L.filter λx=>decide (x.s=d)
def Sh(s:Sm)(d:Int)(l:List Int):List Pa:=(HW d s.ls).map (Ps l)
def UX(d:Int)(l:List Int)(P:List Pa):Bool:=P.all λx=>decide (0<=BV l (FT d x))
def Tt(l:List Int)(L:List Lo):Bool:=L.all λx=>decide (0<=BV l x.a)&&decide (0<=BV l x.b)
def spG(s:Sm)(d:Int)(l:List Int):Bool:=UX d l s.ps&&Tt l (HW d s.ls)
theorem d76{d:Int}{l:List Int}{P:List Pa}{i:Nat}(h:i<P.length):UX d l (P.take (i+1))=(UX d l (P.take i)&&decide (0<=BV l (FT d (P.getD i Bo.d)))):=by rw[IZ (d:=Bo.d) h];simp[UX]
theorem c4s{d:Int}{L:List Lo}{i:Nat}(h:i<L.length)(a:(L.getD i BW.d).s=d):HW d (L.take (i+1))=HW d (L.take i)++[L.getD i BW.d]:=by rw[IZ (d:=BW.d) h];unfold HW;rw[List.filter_append];generalize L.getD i BW.d=x at*;simp[a]
theorem d8r{d:Int}{L:List Lo}{i:Nat}(h:i<L.length)(a:(L.getD i BW.d).s≠d):HW d (L.take (i+1))=HW d (L.take i):=by rw[IZ (d:=BW.d) h];unfold HW;rw[List.filter_append];generalize L.getD i BW.d=x at*;simp[a]
theorem d9d{l:List Int}{L:List Lo}{x:Lo}:Tt l (L++[x])=(Tt l L&&decide (0<=BV l x.a)&&decide (0<=BV l x.b)):=by simp[Tt,Bool.and_assoc]
theorem f96{s:Sm}{d:Int}{l:List Int}{i:Nat}(h:i<s.ps.length):(OY s d l).getD i AC.d=BV l (FT d (s.ps.getD i Bo.d)):=by simp[OY,h]
theorem TC{s:Sm}{d:Int}{l:List Int}:(OY s d l).length=s.ps.length:=by simp[OY]
theorem spRow{L:List Lo}{d:Int}{l:List Int}{i:Nat}{c:List SV}(h:i<L.length)(a:(L.getD i BW.d).s=d)(b:c=Bo.sv (Ps l (L.getD i BW.d))):∀j,j<(HW d (L.take i)).length+1->(if j<(HW d (L.take i)).length then Bo.row ((HW d (L.take i)).map (Ps l)) j else(List.map (λx:Nat×List SV=>x.snd) [(0,c)].reverse).getD (j-(HW d (L.take i)).length) [])=Bo.row ((HW d (L.take (i+1))).map (Ps l)) j:=by have:=Vv (R:=Bo) (l:=(HW d (L.take i)).map (Ps l)) (x:=Ps l (L.getD i BW.d)) b;rw[c4s h a,Mf];rwa[Ke]at this
theorem f43{d:Int}{L:List Lo}{i:Nat}:(HW d (L.take i)).length<=L.length:=by unfold HW;exact Lk (Ni _ _) F7
def f58(s:Sm)(d:Int)(l:List Int):SV:=.tup [.sl 2 (Sh s d l).length (Bo.row (Sh s d l)) none,.sl 1 (OY s d l).length (AC.row (OY s d l)) none,.bool (spG s d l)]
def spIn(s:Sm)(d:Int)(l:List Int):Prop:=(s.ps.length<=100000/\s.ls.length<=100000)/\l.length<=100000/\(d=0\/d=1)
def c8s:AK
 | [x,.int .u8 d,y]=>match asSm x,AC.as y with
   |some q,some u=>some (q.1/\AC.isL u.1 u.2/\spIn q.2 d (AC.lst u.1 u.2),f58 q.2 d (AC.lst u.1 u.2))
   |_,_=>none
 |_=>none
def FSpans:Fam:=⟨Sm×Int×List Int,λ(s,d,l)=>[.agg (KV s),.int .u8 d,.sl 1 l.length (AC.row l) none],λ(s,d,l)=>spIn s d l,λ(s,d,l)=>f58 s d l⟩
def spOwn(s:Sm)(l:List Int)(g:Bool)(a:List Blk):List Blk:=.cells 156 (KV s)::.cells 37 [.sl 1 l.length (AC.row l) none]::.cells 4 [.bool g]::a
def ISpans:Sm×Int×List Int->Nat->Option Inv
 |(s,d,l),4=>some {β:=Nat,ok:=λi=>i<=s.ps.length,st:=λi=>⟨[⟨20,none,.int .i64 i⟩,⟨19,none,.int .i64 s.ps.length⟩,⟨18,none,.sl 2 s.ps.length (Bo.row s.ps) none⟩,⟨9,none,.clo 150 [.own 1 0,.own 2 0]⟩,⟨8,none,.own 2 0⟩,⟨7,none,.osl 3⟩,⟨6,none,.con (.slice none 0 0)⟩,⟨3,none,.own 0 0⟩,⟨1,none,.int .u8 d⟩],spOwn s l (UX d l (s.ps.take i)) [.row 3 1 i (AC.row ((OY s d l).take i)) none]⟩,μ:=λi=>s.ps.length-i,nl:=[.slot 7 3 1]}
 |(s,d,l),9=>some {β:=Nat,ok:=λi=>i<=s.ls.length,st:=λi=>⟨[⟨40,none,.int .i64 i⟩,⟨39,none,.int .i64 s.ls.length⟩,⟨38,none,.sl 3 s.ls.length (BW.row s.ls) none⟩,⟨9,none,.clo 150 [.own 1 0,.own 2 0]⟩,⟨8,none,.own 2 0⟩,⟨7,none,.osl 3⟩,⟨6,none,.osl 4⟩,⟨1,none,.int .u8 d⟩],spOwn s l (UX d l s.ps&&Tt l (HW d (s.ls.take i))) [.row 3 1 (OY s d l).length (AC.row (OY s d l)) none,.row 206 2 (HW d (s.ls.take i)).length (Bo.row ((HW d (s.ls.take i)).map (Ps l))) none]⟩,μ:=λi=>s.ls.length-i,nl:=[.slot 6 206 2]}
 |_,_=>none
theorem pSpans:PS 112 c8s:=by
 refine NU {h:=[(150,hSp1)],c2:=true} ⟨E6,E6,by simpa using pSp1⟩ FSpans ISpans c8s ?_ ?_ Tryz.func112 E5 E5 E5 ?_
 .intro args pre s h f;unfold c8s at h;split at h
  .rename_i x d y;split at h
   .rename_i q u k m;cases h;exact⟨(q.2,d,AC.lst u.1 u.2),⟨d6r k f.1,Ec,HT (AC.as_leL m f.2.1),Ji⟩,f.2.2,rfl⟩
   .cases h
  .cases h
 .exact C5
 .rintro⟨s,d,l⟩ ⟨⟨c9,bu⟩,g,b⟩;rcases b with rfl|rfl;all_goals
   all_goals refine X0a _ ?_;(repeat' first|constructor|intro h)<;>refine Lm ?_
   refine⟨(0:Nat),Js _,?_,?_⟩
   .exact X1b
   .intro i e;replace e:i<=s.ps.length:=e;refine X0a _ ?_;(repeat' first|constructor|intro h)<;>refine Lm ?_
    all_goals(try simp only[In,RT.lst_row]at*)
    all_goals(try first
     |omega
     |exact⟨RT.isL_row AC _,g⟩
     |exact Ae
     |exact A9)
    .have a:i<s.ps.length:=E4;refine⟨i+1,E4,E4,?_⟩;simp only[d76 a];refine X0a _ ?_;(repeat' first|constructor|intro h)<;>refine Lm ?_
     all_goals(first
      |exact At
      |exact d8d (by rw[TC];exact a) (by rw[f96 a];rfl)
      |skip)
    .have a:i=s.ps.length:=E4;subst a;refine⟨(0:Nat),Js _,?_,?_⟩
     .simp only[Lj,List.take_zero];refine X0a _ ?_;(repeat' first|constructor|intro h)<;>refine Lm ?_
      all_goals(first
       |exact A5
       |exact TC.symm
       |exact Am
       |(simp[Tt,HW];done)
       |(intro j _;rw[Lp (by rw[TC];exact Jm _)];done)
       |skip)
     .intro i e;replace e:i<=s.ls.length:=e;refine X0a _ ?_;(repeat' first|constructor|intro h)<;>refine Lm ?_
      all_goals(try simp only[In,RT.lst_row]at*)
      all_goals(try first
       |omega
       |exact⟨RT.isL_row AC _,g⟩
       |exact Ae
       |(have:=@f43 0 s.ls i;refine⟨E4,?_⟩;exact MK E5 E4)
       |(have:=@f43 1 s.ls i;refine⟨E4,?_⟩;exact MK E5 E4)
       |exact A9
       |exact λ_ _=>Ji)
      .have b:=h;have a:i<s.ls.length:=E4;refine⟨i+1,E4,E4,?_⟩;simp only[c4s a b,d9d,J5,<-Bool.and_assoc];refine X0a _ ?_;(repeat' first|constructor|intro h)<;>refine Lm ?_
       all_goals(first
        |exact At
        |(rw[<-c4s a b];exact spRow a b rfl)
        |skip)
      .have b:=h;have a:i<s.ls.length:=E4;refine⟨i+1,E4,E4,?_⟩;simp only[d8r a b];refine X0a _ ?_;(repeat' first|constructor|intro h)<;>refine Lm ?_
       all_goals(first
        |exact At
        |skip)
      all_goals
       have a:i=s.ls.length:=E4;subst a;simp only[Lj];first
        |exact A5
        |(unfold Sh;rw[List.length_map];done)
        |skip
def RZ(s:Int):Bool:=decide (1<s)
def f15:AK
 | [.agg [.int .u8 s,.int .i64 _,.int .i64 _]]=>some (True,.bool (RZ s))
 |_=>none
def FCrs1:Fam:=⟨Int×Int×Int,λ(s,a,b)=>[.agg [.int .u8 s,.int .i64 a,.int .i64 b]],λ_=>True,λ(s,_,_)=>.bool (RZ s)⟩
theorem pCrs1:PS 114 f15:=by
 refine con [] E6 FCrs1 (λ_ _=>none) f15 ?_ ?_ Tryz.func114 E5 E5 E5 ?_
 .intro args pre s h hp;unfold f15 at h;split at h
  .rename_i s a b;cases h;exact⟨(s,a,b),⟨Ej,Ji⟩,Ji,rfl⟩
  .cases h
 .exact C4
 .rintro⟨s,a,b⟩ _;refine X0a _ ?_;(repeat' first|constructor|intro h)<;>refine Lm ?_
  all_goals first|rfl|skip
def c6y:AK
 | [x,.clo g []]=>if g=114 then(BW.as x).map λq=>(BW.isL q.1 q.2/\q.1<=100000,.int .i64 (Oq RZ ((BW.lst q.1 q.2).map (·.s))))else none
 |_=>none
def f3g:Fam:=⟨List Lo,λl=>[.sl 3 l.length (BW.row l) none,.clo 114 []],λl=>l.length<=100000,λl=>.int .i64 (Oq RZ (l.map (·.s)))⟩
def IIdxFL:List Lo->Nat->Option Inv
 |l,2=>some {β:=Nat,ok:=λi=>i<=l.length/\∀j,j<i->RZ ((l.map (·.s)).getD j 0)=false,st:=λi=>⟨[⟨8,none,.int .i64 i⟩,⟨7,none,.int .i64 l.length⟩,⟨1,none,.clo 114 []⟩,⟨0,none,.sl 3 l.length (BW.row l) none⟩],[]⟩,μ:=λi=>l.length-i}
 |_,_=>none
theorem f20(l:List Lo)(i:Nat):(l.map (·.s)).getD i 0=(l.getD i BW.d).s:=by simp only[Jd,K1];cases l[i]?<;>rfl
theorem pIdxFL:PS 152 c6y:=by
 refine con [(114,f15)] (by simpa using pCrs1) f3g IIdxFL c6y ?_ ?_ Tryz.func152 E5 E5 E5 ?_
 .intro args pre s h a;unfold c6y at h;split at h
  .split at h
   .rename_i d;subst d;simp only[Iq]at h;obtain⟨⟨n,f⟩,hx,rfl,rfl⟩:=h;exact⟨BW.lst n f,⟨HT (BW.as_leL hx a.1),⟨rfl,rfl⟩,Ji⟩,by simp only[f3g,RT.lst_length];exact a.2,rfl⟩
   .cases h
  .cases h
 .exact C3
 .intro(l:List Lo) a;replace a:l.length<=100000:=a;refine X0a _ ?_;(repeat' first|constructor|intro h)<;>refine Lm ?_
  refine⟨(0:Nat),⟨Js _,λj hj=>E4⟩,?_,?_⟩
  .exact X0d
  .intro i g;obtain⟨dw,br⟩:=g;have c:=f20 l i;have hml:(l.map (·.s)).length=l.length:=Ke ..;refine X0a _ ?_;(repeat' first|constructor|intro h)<;>refine Lm ?_
   all_goals(try simp only[In]at*)
   all_goals(first
    |exact As
    |rfl
    |exact Ji
    |exact(b9t E4 br (by rw[c];assumption)).symm
    |(refine⟨i+1,⟨E4,λj hj=> ?_⟩,Ef,?_⟩)
    |exact Bv
    |skip)
   .by_cases e:j<i
    .exact br j e
    .have:j=i:=E4;subst this;rw[c];assumption
   .exact X0e
def c7f:AK
 | [x,.clo g []]=>if g=114 then(BW.as x).map λq=>(BW.isL q.1 q.2/\q.1<=100000,.bool (((BW.lst q.1 q.2).map (·.s)).any RZ))else none
 |_=>none
def f4b:Fam:=⟨List Lo,λl=>[.sl 3 l.length (BW.row l) none,.clo 114 []],λl=>l.length<=100000,λl=>.bool ((l.map (·.s)).any RZ)⟩
theorem pCntFL:PS 113 c7f:=by
 refine con [(152,c6y)] (by simpa using pIdxFL) f4b (λ_ _=>none) c7f ?_ ?_ Tryz.func113 E5 E5 E5 ?_
 .intro args pre s h a;unfold c7f at h;split at h
  .split at h
   .rename_i b;subst b;simp only[Iq]at h;obtain⟨⟨n,f⟩,hx,rfl,rfl⟩:=h;exact⟨BW.lst n f,⟨HT (BW.as_leL hx a.1),⟨rfl,rfl⟩,Ji⟩,by simp only[f4b,RT.lst_length];exact a.2,rfl⟩
   .cases h
  .cases h
 .exact C3
 .intro(l:List Lo) a;replace a:l.length<=100000:=a;refine X0a _ ?_;(repeat' first|constructor|intro h)<;>refine Lm ?_
  all_goals(try simp only[RT.lst_row]at*)
  all_goals(first
   |exact⟨BW.isL_row l,a⟩
   |exact b8j _ _
   |skip)
def Qc(x:Pa)(h:Int):Bool:=decide (h>x.a)&&decide (h<x.b)
def Qw(x y:Pa):Bool:=(decide (x.a<y.a)&&decide (y.a<x.b)&&decide (x.b<y.b))||(decide (y.a<x.a)&&decide (x.a<y.b)&&decide (y.b<x.b))
def RV(L:List Pa)(P:List Int)(i:Nat):Bool:=P.any (Qc (L.getD i Bo.d))||(List.range i).any λj=>Qw (L.getD i Bo.d) (L.getD j Bo.d)
def JY(L:List Pa)(P:List Int):Bool:=(List.range L.length).any (RV L P)
def crC(s:Sm):Nat->Cl
 |0=>s.a
 |_=>s.b
def EU(s:Sm)(K:List Stk)(d:Nat):List Pa:=Sh s d (AX K (crC s d))
def DS(s:Sm)(K:List Stk)(d:Nat):List Int:=OY s d (AX K (crC s d))
def RF(s:Sm)(K:List Stk)(d:Nat):Bool:=spG s d (AX K (crC s d))
def PV(s:Sm)(K:List Stk):Nat->Bool
 |0=>false
 |1=>JY (EU s K 0) (DS s K 0)
 |_=>JY (EU s K 0) (DS s K 0)||JY (EU s K 1) (DS s K 1)
def Rg(s:Sm):Bool:=(s.ls.map (·.s)).any RZ
def Vg(A B:List Int)(i k:Nat):Bool:=decide (CT (A.getD i AC.d) (A.getD k AC.d)*CT (B.getD i AC.d) (B.getD k AC.d)<0)
def Qj(A B:List Int)(i:Nat):Bool:=(List.range i).any λa=>(List.range a).any (Vg A B a)
def NJ(s:Sm)(K:List Stk):Int:=
 if(!RF s K 0||Rg s)=true then 1 else if(!RF s K 1||Rg s)=true then 1
 else if(PV s K 2||Qj (DS s K 0) (DS s K 1) s.ps.length)=true then 12 else 0
theorem crE_1{s:Sm}{K:List Stk}(a:(!RF s K 0||Rg s)=false)(h:(!RF s K 1||Rg s)=true):1=NJ s K:=by unfold NJ;rw[if_neg (by rw[a];decide),if_pos h]
theorem crE_2{s:Sm}{K:List Stk}(a:(!RF s K 0||Rg s)=false)(b:(!RF s K 1||Rg s)=false):NJ s K=if(PV s K 2||Qj (DS s K 0) (DS s K 1) s.ps.length)=true then 12 else 0:=by unfold NJ;rw[if_neg (by rw[a];decide),if_neg (by rw[b];decide)]
theorem WA(s:Sm)(K:List Stk)(b:Bool):∀i,i<2->JY (EU s K i) (DS s K i)=b->PV s K (i+1)=(PV s K i||b)
 |0,_,e=>by rw[<-e];rfl
 |1,_,e=>by rw[<-e];rfl
 |_+2,h,_=>E4
theorem f4h{s:Sm}{d:Int}{l:List Int}:(Sh s d l).length<=s.ls.length:=by unfold Sh HW;rw[Ke];exact Ni _ _
theorem c7k{L:List Pa}{P:List Int}(h:∀j,j<L.length->RV L P j=false):JY L P=false:=by unfold JY;rw[Jy];intro j a;rw[h j (Ki.1 a)];decide
theorem d45{L:List Pa}{P:List Int}{k:Nat}(a:k<L.length)(h:RV L P k=true):JY L P=true:=Jz.2 ⟨k,Ki.2 a,h⟩
theorem d7b{L:List Pa}{P:List Int}{k m:Nat}(b:k<L.length)(a:m<P.length)(h:Qc (L.getD k Bo.d) (P.getD m AC.d)=true):JY L P=true:=d45 b (by unfold RV;rw[Kk];refine .inl (Jz.2 ⟨P.getD m AC.d,?_,h⟩);rw[Jd,Je a];exact Kd a)
theorem c81{P:List Int}{x:Pa}(h:∀j,j<P.length->Qc x (P.getD j AC.d)=false):P.any (Qc x)=false:=by rw[Jy];intro v b;obtain⟨j,a,rfl⟩:=K7.1 b;have:=h j a;rw[Jd,Je a]at this;simp only[L4]at this;rw[this];decide
theorem d6b{L:List Pa}{P:List Int}{k m:Nat}(a:k<L.length)(b:m<k)(h:Qw (L.getD k Bo.d) (L.getD m Bo.d)=true):JY L P=true:=d45 a (by unfold RV;rw[Kk];exact .inr (Jz.2 ⟨m,Ki.2 b,h⟩))
theorem c2u{L:List Pa}{P:List Int}{k:Nat}(a:P.any (Qc (L.getD k Bo.d))=false)(b:∀j,j<k->Qw (L.getD k Bo.d) (L.getD j Bo.d)=false):RV L P k=false:=by unfold RV;rw[a,Nj,Jy];intro j c;rw[b j (Ki.1 c)];decide
theorem d3z{f:Nat->Bool}{q:Nat}(h:f q=true):(List.range (q+1)).any f=true:=Jz.2 ⟨q,Ki.2 (Nat.lt_succ_self q),h⟩
theorem c9a{f:Nat->Bool}{q:Nat}(h:f q=false):(List.range (q+1)).any f=(List.range q).any f:=by simp[List.range_succ,h]
theorem d9j(A B:List Int)(k:Nat):Qj A B (k+1)=(Qj A B k||(List.range k).any (Vg A B k)):=by simp[Qj,List.range_succ]
theorem b7n(a b:Int):CT a b= -1\/CT a b=0\/CT a b=1:=by
 unfold CT;split
 .exact .inl rfl
 .split
  .exact .inr (.inr rfl)
  .exact .inr (.inl rfl)
theorem f5e(a b c d:Int):AD .i64 (CT a b*CT c d):=by rcases b7n a b with e|e|e<;>rcases b7n c d with f|f|f<;>(rw[e,f];simp only[AD];omega)
def crIn(s:Sm)(K:List Stk):Prop:=(s.ps.length<=100000/\s.ls.length<=100000)/\ET K/\(∀c,(AX K c).length<=100000)
def nilV:SV:=.con (.slice none 0 0)
def UM(s:Sm)(K:List Stk)(d:Nat):SV:=.sl 1 (DS s K d).length (AC.row (DS s K d)) none
def paS(s:Sm)(K:List Stk):Nat->List SV
 |0=>[nilV,nilV]
 |1=>[UM s K 0,nilV]
 |_=>[UM s K 0,UM s K 1]
def d7n(s:Sm)(K:List Stk)(i:Nat)(c:List Blk):List Blk:=.cells 156 (KV s)::.cells 200 (paS s K i)::.row 39 3 2 (Co.row [s.a,s.b]) none::c
def WE(s:Sm)(K:List Stk)(d:Nat):Bool:= !RF s K d||Rg s
def TY(s:Sm)(K:List Stk)(d n:Nat):SV:=.sl 2 n (Bo.row (EU s K d)) none
abbrev Ru(s:Sm)(K:List Stk)(d k:Nat):Pa:=(EU s K d).getD k Bo.d
def paC(x:Pa):Blk:=.cells 206 [.int .i64 x.a,.int .i64 x.b]
def ICr:Sm×List Stk->Nat->Option Inv
 |(s,K),4=>some {β:=Nat,ok:=λi=>i<=2/\(1<=i->WE s K 0=false)/\(2<=i->WE s K 1=false),st:=λi=>⟨[⟨27,none,.int .i64 i⟩,⟨26,none,.int .i64 2⟩,⟨25,none,.osl 2⟩,⟨6,none,.bool (PV s K i)⟩,⟨5,none,.own 1 0⟩,⟨2,none,.own 0 0⟩,⟨1,none,FI K⟩],d7n s K i []⟩,μ:=λi=>2-i,sub:=λi=>some fun
  |12=>some {β:=Nat,ok:=λk=>k<=(EU s K i).length/\∀j,j<k->RV (EU s K i) (DS s K i) j=false,st:=λk=>⟨[⟨56,none,.int .i64 k⟩,⟨55,none,.int .i64 (EU s K i).length⟩,⟨54,none,TY s K i (EU s K i).length⟩,⟨11,none,UM s K i⟩,⟨10,none,TY s K i (EU s K i).length⟩,⟨27,none,.int .i64 i⟩,⟨26,none,.int .i64 2⟩,⟨25,none,.osl 2⟩,⟨6,none,.bool (PV s K i)⟩,⟨5,none,.own 1 0⟩,⟨2,none,.own 0 0⟩,⟨1,none,FI K⟩],d7n s K (i+1) []⟩,μ:=λk=>(EU s K i).length-k,sub:=λk=>some fun
   |15=>some {β:=Nat,ok:=λm=>m<=(DS s K i).length/\∀j,j<m->Qc (Ru s K i k) ((DS s K i).getD j AC.d)=false,st:=λm=>⟨[⟨63,none,.int .i64 m⟩,⟨62,none,.int .i64 (DS s K i).length⟩,⟨61,none,UM s K i⟩,⟨14,none,.own 3 0⟩,⟨13,none,.int .i64 k⟩,⟨56,none,.int .i64 k⟩,⟨55,none,.int .i64 (EU s K i).length⟩,⟨54,none,TY s K i (EU s K i).length⟩,⟨11,none,UM s K i⟩,⟨10,none,TY s K i (EU s K i).length⟩,⟨27,none,.int .i64 i⟩,⟨26,none,.int .i64 2⟩,⟨25,none,.osl 2⟩,⟨6,none,.bool (PV s K i)⟩,⟨5,none,.own 1 0⟩,⟨2,none,.own 0 0⟩,⟨1,none,FI K⟩],d7n s K (i+1) [paC (Ru s K i k)]⟩,μ:=λm=>(DS s K i).length-m}
   |21=>some {β:=Nat,ok:=λm=>m<=k/\(DS s K i).any (Qc (Ru s K i k))=false/\∀j,j<m->Qw (Ru s K i k) (Ru s K i j)=false,st:=λm=>⟨[⟨82,none,.int .i64 m⟩,⟨81,none,.int .i64 k⟩,⟨80,none,TY s K i k⟩,⟨14,none,.own 3 0⟩,⟨56,none,.int .i64 k⟩,⟨55,none,.int .i64 (EU s K i).length⟩,⟨54,none,TY s K i (EU s K i).length⟩,⟨11,none,UM s K i⟩,⟨10,none,TY s K i (EU s K i).length⟩,⟨27,none,.int .i64 i⟩,⟨26,none,.int .i64 2⟩,⟨25,none,.osl 2⟩,⟨6,none,.bool (PV s K i)⟩,⟨5,none,.own 1 0⟩,⟨2,none,.own 0 0⟩,⟨1,none,FI K⟩],d7n s K (i+1) [paC (Ru s K i k)]⟩,μ:=λm=>k-m}
   |_=>none}
  |_=>none}
 |(s,K),29=>some {β:=Nat,ok:=λi=>i<=s.ps.length,st:=λi=>⟨[⟨132,none,.int .i64 i⟩,⟨131,none,.int .i64 s.ps.length⟩,⟨6,none,.bool (PV s K 2||Qj (DS s K 0) (DS s K 1) i)⟩,⟨5,none,.own 1 0⟩],[.cells 156 (KV s),.cells 200 (paS s K 2)]⟩,μ:=λi=>s.ps.length-i,sub:=λi=>some fun
  |32=>some {β:=Nat,ok:=λk=>k<=i,st:=λk=>⟨[⟨136,none,.int .i64 k⟩,⟨135,none,.int .i64 i⟩,⟨19,none,.int .i64 i⟩,⟨132,none,.int .i64 i⟩,⟨131,none,.int .i64 s.ps.length⟩,⟨6,none,.bool (PV s K 2||Qj (DS s K 0) (DS s K 1) i||(List.range k).any (Vg (DS s K 0) (DS s K 1) i))⟩,⟨5,none,.own 1 0⟩],[.cells 156 (KV s),.cells 200 (paS s K 2)]⟩,μ:=λk=>i-k}
  |_=>none}
 |_,_=>none
def FCr:Fam:=⟨Sm×List Stk,λ(s,K)=>[.agg (KV s),FI K],λ(s,K)=>crIn s K,λ(s,K)=>.int .i64 (NJ s K)⟩
def b42:AK
 | [x,y]=>match asSm x,IQ y with
   |some q,some u=>some (q.1/\u.1/\crIn q.2 u.2,.int .i64 (NJ q.2 u.2))
   |_,_=>none
 |_=>none
theorem d7m:PS 79 b42:=by
 refine con [(111,f06),(112,c8s),(113,c7f),(115,Ti)] (by simpa using⟨pStAt,pSpans,pCntFL,pCmp⟩) FCr ICr b42 ?_ ?_ Tryz.func79 E5 E5 E5 ?_
 .intro args pre s h w;unfold b42 at h;split at h
  .rename_i x y;split at h
   .rename_i q u E F;cases h;exact⟨(q.2,u.2),⟨d6r E w.1,(LD F w.2.1).1,Ji⟩,w.2.2,rfl⟩
   .cases h
  .cases h
 .exact C3
 .rintro⟨s,K⟩ ⟨⟨c9,bu⟩,gf,tn⟩;refine X0a _ ?_;(repeat' first|constructor|intro h)<;>refine Lm ?_
  refine⟨(0:Nat),⟨E7,λh=>absurd h E7,λh=>absurd h E7⟩,?_,?_⟩
  .refine X0a _ ?_;(repeat' first|constructor|intro h)<;>refine Lm ?_
   all_goals first|exact A5|(intro j b;rcases(show j=0\/j=1 from E4)with rfl|rfl<;>rfl)|skip
  .intro i d;obtain⟨d,dw,C⟩:=d;replace d:i<=2:=d;rcases(show i=0\/i=1\/i=2 from E4)with rfl|rfl|rfl
   .refine X0a _ ?_;(repeat' first|constructor|intro h)<;>refine Lm ?_
    all_goals(try simp only[In,RT.lst_row]at*)
    all_goals(try first
     |exact Ak)
    have z:(DS s K 0).length=s.ps.length:=TC;have G:(EU s K 0).length<=s.ls.length:=f4h;have c:(1<=1->WE s K 0=false)/\(2<=1->WE s K 1=false):=⟨λ_=>h,λe=>absurd e E7⟩
    refine⟨(0:Nat),⟨Js _,λj b=>absurd b (K3 _)⟩,?_,?_⟩
    .exact X1c
    .intro k g;obtain⟨H,n⟩:=g;refine X0a _ ?_;(repeat' first|constructor|intro h)<;>refine Lm ?_
     all_goals(try simp only[In]at*)
     all_goals(try first
      |exact As)
     .have o:k<(EU s K 0).length:=E4;refine⟨(0:Nat),⟨Js _,λj b=>absurd b (K3 _)⟩,?_,?_⟩
      .exact X1c
      .intro m A;obtain⟨I,r⟩:=A;refine X0a _ ?_;(repeat' first|constructor|intro h)<;>refine Lm ?_
       all_goals(try simp only[In]at*)
       all_goals(try first
        |exact As
        |exact Bp)
       .have hs:JY (EU s K 0) (DS s K 0)=true:=d7b (m:=m) o E4 (by unfold Qc;assumption);refine⟨(1:Nat),⟨E7,c.1,c.2⟩,E7,?_⟩;exact X1d
       .refine⟨m+1,⟨E4,λj b=> ?_⟩,by show _-(m+1)<_-m;omega,?_⟩
        .by_cases e:j<m
         .exact r j e
         .have:j=m:=E4;subst this;assumption
        .exact X1e
       .have B:=c81 (x:=Ru s K 0 k) λj b=>r j E4;refine⟨(0:Nat),⟨Js _,B,λj b=>absurd b (K3 _)⟩,?_,?_⟩
        .refine X0a _ ?_;(repeat' first|constructor|intro h)<;>refine Lm ?_
         all_goals first|exact At|(intro j _;simp;done)|skip
        .intro q l;obtain⟨J,t,v⟩:=l;refine X0a _ ?_;(repeat' first|constructor|intro h)<;>refine Lm ?_
         all_goals(try simp only[In]at*)
         all_goals(try first
          |exact As)
         .have hs:JY (EU s K 0) (DS s K 0)=true:=d6b (m:=q) o E4 (by unfold Qw;assumption);refine⟨(1:Nat),⟨E7,c.1,c.2⟩,E7,?_⟩;exact X1d
         .refine⟨q+1,⟨E4,t,λj b=> ?_⟩,Hn,?_⟩
          .by_cases e:j<q
           .exact v j e
           .have:j=q:=E4;subst this;unfold Qw;assumption
          .exact X1e
         .refine⟨k+1,⟨E4,λj b=> ?_⟩,Ff,?_⟩
          .by_cases e:j<k
           .exact n j e
           .have:j=k:=E4;subst this;exact c2u t λi d=>v i E4
          .exact X1e
     .have hs:JY (EU s K 0) (DS s K 0)=false:=c7k λj b=>n j E4;refine⟨(1:Nat),⟨E7,c.1,c.2⟩,E7,?_⟩;refine X0a _ ?_;(repeat' first|constructor|intro h)<;>refine Lm ?_
      all_goals first|exact At|exact(WA s K false 0 E7 hs).symm|exact((WA s K false 0 E7 hs).trans (N3 _)).symm|skip
   .refine X0a _ ?_;(repeat' first|constructor|intro h)<;>refine Lm ?_
    all_goals(try simp only[In,RT.lst_row]at*)
    all_goals(try first
     |exact Ak)
    have z:(DS s K 1).length=s.ps.length:=TC;have G:(EU s K 1).length<=s.ls.length:=f4h;have c:(1<=2->WE s K 0=false)/\(2<=2->WE s K 1=false):=⟨λ_=>dw (Jm 1),λ_=>h⟩
    refine⟨(0:Nat),⟨Js _,λj b=>absurd b (K3 _)⟩,?_,?_⟩
    .exact X1c
    .intro k g;obtain⟨H,n⟩:=g;refine X0a _ ?_;(repeat' first|constructor|intro h)<;>refine Lm ?_
     all_goals(try simp only[In]at*)
     all_goals(try first
      |exact As)
     .have o:k<(EU s K 1).length:=E4;refine⟨(0:Nat),⟨Js _,λj b=>absurd b (K3 _)⟩,?_,?_⟩
      .exact X1c
      .intro m A;obtain⟨I,r⟩:=A;refine X0a _ ?_;(repeat' first|constructor|intro h)<;>refine Lm ?_
       all_goals(try simp only[In]at*)
       all_goals(try first
        |exact As
        |exact Bp)
       .have hs:JY (EU s K 1) (DS s K 1)=true:=d7b (m:=m) o E4 (by unfold Qc;assumption);refine⟨(2:Nat),⟨E7,c.1,c.2⟩,E7,?_⟩;exact X1f
       .refine⟨m+1,⟨E4,λj b=> ?_⟩,by show _-(m+1)<_-m;omega,?_⟩
        .by_cases e:j<m
         .exact r j e
         .have:j=m:=E4;subst this;assumption
        .exact X1e
       .have B:=c81 (x:=Ru s K 1 k) λj b=>r j E4;refine⟨(0:Nat),⟨Js _,B,λj b=>absurd b (K3 _)⟩,?_,?_⟩
        .refine X0a _ ?_;(repeat' first|constructor|intro h)<;>refine Lm ?_
         all_goals first|exact At|(intro j _;simp;done)|skip
        .intro q l;obtain⟨J,t,v⟩:=l;refine X0a _ ?_;(repeat' first|constructor|intro h)<;>refine Lm ?_
         all_goals(try simp only[In]at*)
         all_goals(try first
          |exact As)
         .have hs:JY (EU s K 1) (DS s K 1)=true:=d6b (m:=q) o E4 (by unfold Qw;assumption);refine⟨(2:Nat),⟨E7,c.1,c.2⟩,E7,?_⟩;exact X1f
         .refine⟨q+1,⟨E4,t,λj b=> ?_⟩,Hn,?_⟩
          .by_cases e:j<q
           .exact v j e
           .have:j=q:=E4;subst this;unfold Qw;assumption
          .exact X1e
         .refine⟨k+1,⟨E4,λj b=> ?_⟩,Ff,?_⟩
          .by_cases e:j<k
           .exact n j e
           .have:j=k:=E4;subst this;exact c2u t λi d=>v i E4
          .exact X1e
     .have hs:JY (EU s K 1) (DS s K 1)=false:=c7k λj b=>n j E4;refine⟨(2:Nat),⟨E7,c.1,c.2⟩,E7,?_⟩;refine X0a _ ?_;(repeat' first|constructor|intro h)<;>refine Lm ?_
      all_goals first|exact At|exact(WA s K false 1 E7 hs).symm|exact((WA s K false 1 E7 hs).trans (N3 _)).symm|skip
   .refine X0a _ ?_;(repeat' first|constructor|intro h)<;>refine Lm ?_
    all_goals(try simp only[]at*)
    all_goals(try omega)
    have z:(DS s K 0).length=s.ps.length:=TC;have hPm:(DS s K 1).length=s.ps.length:=TC;refine⟨(0:Nat),Js _,?_,?_⟩
    .refine X0a _ ?_;(repeat' first|constructor|intro h)<;>refine Lm ?_
     all_goals first|exact A5|exact(N3 _).symm|(rw[z];done)|skip
    .intro k g;replace g:k<=s.ps.length:=g;refine X0a _ ?_;(repeat' first|constructor|intro h)<;>refine Lm ?_
     all_goals(try simp only[In]at*)
     .refine⟨(0:Nat),Js _,?_,?_⟩
      .refine X0a _ ?_;(repeat' first|constructor|intro h)<;>refine Lm ?_
       all_goals first|exact A5|exact(N3 _).symm|skip
      .intro q l;replace l:q<=k:=l;refine X0a _ ?_;(repeat' first|constructor|intro h)<;>refine Lm ?_
       all_goals(try simp only[In]at*)
       all_goals(try first
        |exact As
        |exact f5e _ _ _ _
        |exact Au)
       .refine⟨q+1,by show q+1<=k;omega,by show k-(q+1)<k-q;omega,?_⟩;refine X0a _ ?_;(repeat' first|constructor|intro h)<;>refine Lm ?_
        all_goals first|exact At|(have e:=d3z (f:=Vg (DS s K 0) (DS s K 1) k) (q:=q) (K2 h);rw[e,Bool.or_true];done)|skip
       .refine⟨q+1,by show q+1<=k;omega,by show k-(q+1)<k-q;omega,?_⟩;refine X0a _ ?_;(repeat' first|constructor|intro h)<;>refine Lm ?_
        all_goals first|exact At|(have e:=c9a (f:=Vg (DS s K 0) (DS s K 1) k) (q:=q) (K5 h);rw[e];done)|skip
       .have e:q=k:=E4;subst e;refine⟨q+1,by show q+1<=_;omega,Hn,?_⟩;refine X0a _ ?_;(repeat' first|constructor|intro h)<;>refine Lm ?_
        all_goals first|exact At|(rw[d9j,Bool.or_assoc];done)|skip
     .have e:k=s.ps.length:=E4;subst e;rw[crE_2 (dw E7) (C E7),Jf E8]
     .have e:k=s.ps.length:=E4;subst e;rw[crE_2 (dw E7) (C E7),Jg (by simp_all)]
def BD(p:Pt)(r:Mv)(L:List Stk):List SV:=[.int .i64 p.W,.int .i64 p.H,.sl 3 p.l.length (DZ p.l) none,.int .u8 r.t,.int .i64 r.x,.int .i64 r.y,FI L]
def Fo:SV->Option (Prop×Pt×Mv×List Stk)
 |.agg [.int .i64 W,.int .i64 H,c,.int .u8 t,.int .i64 a,.int .i64 b,z]=>match NT c,IQ z with
  |some q,some s=>some (((ME q.1 q.2/\q.1<=100000)/\(∀x∈EK q.1 q.2,AD .u8 x.e)/\0<=t/\t<=255)/\s.1/\(∀x∈s.2,AD .u8 x.c.q)/\(BX s.2).length<=100000,⟨W,H,EK q.1 q.2⟩,⟨t,a,b⟩,s.2)
  |_,_=>none
 |_=>none
theorem c7g{x:SV}{q:Prop}{L:List Stk}(h:IQ x=some (q,L))(hq:q):x.le0 (FI L)/\ET L:=by unfold IQ at h;simp only[Iq]at h;obtain⟨⟨n,f⟩,hx,rfl,rfl⟩:=h;exact⟨AA.as_leL hx hq.1,He,hq.2.2⟩
theorem Ll{x:SV}{q:Prop}{p:Pt}{r:Mv}{L:List Stk}(h:Fo x=some (q,p,r,L))(d:q):x.le2 (.agg (BD p r L))/\prOK p r/\EV L:=by
 unfold Fo at h;split at h
 .rename_i W H c t a b z;split at h
  .rename_i u v e f;cases h;obtain⟨⟨⟨g,i⟩,j,k,l⟩,m,n,o⟩:=d;obtain⟨s,w⟩:=c7g f m;refine⟨?_,⟨⟨by simp only[RW];exact i,j⟩,k,l⟩,w,n,o⟩;refine⟨E9,E9,QQ e g,E9,E9,E9,s,Ji⟩
  .cases h
 .cases h
def Ri(p:Pt)(r:Mv)(L:List Stk)(u:List Bool)(S:List Sm):List SV:=BD p r L++[.sl 1 u.length (GR.row u) none,.sl 9 S.length (GA.row S) none]
def zP(e:Int)(p:Pt):Pt:=if e=0 then p else⟨0,0,[]⟩
def zR(e:Int)(r:Mv):Mv:=if e=0 then r else⟨0,0,0⟩
def zL{α:Type}(e:Int)(L:List α):List α:=if e=0 then L else []
def rLook(p:Pt)(r:Mv)(L:List Stk):SV:=.tup [.agg (Ri (zP (CZ p r L) p) (zR (CZ p r L) r) (zL (CZ p r L) L) (zL (CZ p r L) (GQ p r)) (zL (CZ p r L) (GE p r L))),.int .i64 (CZ p r L)]
def d9z:AK
 | [x]=>(Fo x).map λq=>(q.1,rLook q.2.1 q.2.2.1 q.2.2.2)
 |_=>none
def FLook:Fam:=⟨Pt×Mv×List Stk,λ(p,r,L)=>[.agg (BD p r L)],λ(p,r,L)=>prOK p r/\EV L,λ(p,r,L)=>rLook p r L⟩
theorem pLook:PS 33 d9z:=by
 refine con [(74,d8q),(44,kUp)] (by simpa using⟨pSeOf,pUp⟩) FLook (λ_ _=>none) d9z ?_ ?_ Tryz.func33 E5 E5 E5 ?_
 .intro args pre s h a;unfold d9z at h;split at h
  .simp only[Iq]at h;obtain⟨⟨q,p,r,L⟩,hx,rfl,rfl⟩:=h;obtain⟨b,c,d⟩:=Ll hx a;exact⟨(p,r,L),⟨b,Ji⟩,⟨c,d⟩,rfl⟩
  .cases h
 .exact C4
 .rintro⟨p,r,L⟩ ⟨c9,bu⟩;refine X0a _ ?_;(repeat' first|constructor|intro h)<;>refine Lm ?_
  all_goals(try simp only[CR,RT.lst_row]at*)
  all_goals(first
   |exact Bb
   |(have e:CZ p r L=0:=by simpa using h
     first
      |(simp[zP,zR,zL,e];done)
      |(show CF p r=_;rw[(YP e).1,e];done))
   |(have e:¬CZ p r L=0:=by simpa using h
     simp[zP,zR,zL,e];done)
   |skip)
def Xo:SV->Option (Prop×Pt×Mv×List Stk×List Bool×List Sm)
 |.agg [.int .i64 W,.int .i64 H,c,.int .u8 t,.int .i64 a,.int .i64 b,z,u,s]=>match NT c,IQ z,GR.as u,GA.as s with
  |some q,some v,some x,some y=>some ((ME q.1 q.2/\q.1<=100000)/\v.1/\(GR.isL x.1 x.2/\x.1<=100000)/\(GA.isL y.1 y.2/\y.1<=100000),⟨W,H,EK q.1 q.2⟩,⟨t,a,b⟩,v.2,GR.lst x.1 x.2,GA.lst y.1 y.2)
  |_,_,_,_=>none
 |_=>none
def VF(p:Pt)(L:List Stk)(u:List Bool)(S:List Sm):Prop:=p.l.length<=100000/\ET L/\u.length<=100000/\S.length<=100000
theorem c4v{x:SV}{q:Prop}{p:Pt}{r:Mv}{L:List Stk}{u:List Bool}{S:List Sm}(h:Xo x=some (q,p,r,L,u,S))(f:q):x.le2 (.agg (Ri p r L u S))/\VF p L u S:=by
 unfold Xo at h;split at h
 .rename_i W H c t a b z u' s';split at h
  .rename_i g i j k;cases h;obtain⟨q1,l,d,e⟩:=f;obtain⟨m,n⟩:=c7g i l;exact⟨⟨E9,E9,QQ g q1.1,E9,E9,E9,m,GR.as_leL j d.1,GA.as_leL k e.1,Ji⟩,Hf,n,by rw[RT.lst_length];exact d.2,by rw[RT.lst_length];exact e.2⟩
  .cases h
 .cases h
def OV(L:List Stk)(S:List Sm):Int:=if(S.any λs=> !decide (NJ s L=0))=true then 12 else 0
def f5d(S:List Sm):Prop:=∀s∈S,s.ps.length<=100000/\s.ls.length<=100000
theorem f7s{L:List Stk}(h:ET L)(c:Cl):(AX L c).length<=100000:=by
 unfold AX;split
 .rename_i s hs;exact h.2 s (List.mem_of_find?_eq_some hs)
 .exact Js _
def b1j:AK
 | [x]=>(Xo x).map λq=>(q.1/\f5d q.2.2.2.2.2,.int .i64 (OV q.2.2.2.1 q.2.2.2.2.2))
 |_=>none
def c9p:Fam:=⟨Pt×Mv×List Stk×List Bool×List Sm,λ(p,r,L,u,S)=>[.agg (Ri p r L u S)],λ(p,_,L,u,S)=>VF p L u S/\f5d S,λ(_,_,L,_,S)=>.int .i64 (OV L S)⟩
def c9b:Pt×Mv×List Stk×List Bool×List Sm->Nat->Option Inv
 |(p,r,L,u,S),2=>some {β:=Nat,ok:=λi=>i<=S.length/\∀j,j<i->NJ (S.getD j BG) L=0,st:=λi=>⟨[⟨8,none,.int .i64 i⟩,⟨7,none,.int .i64 S.length⟩,⟨6,none,.sl 9 S.length (GA.row S) none⟩,⟨1,none,.own 0 0⟩],[.cells 94 (Ri p r L u S)]⟩,μ:=λi=>S.length-i}
 |_,_=>none
theorem g0w{L:List Stk}{S:List Sm}{i:Nat}(hi:i<S.length)(h:¬NJ (S.getD i BG) L=0):OV L S=12:=by unfold OV;rw[Jf];exact Jz.2 ⟨S.getD i BG,CY hi,Ea⟩
theorem d85{L:List Stk}{S:List Sm}(h:∀j,j<S.length->NJ (S.getD j BG) L=0):OV L S=0:=by unfold OV;rw[Jg];intro b;obtain⟨s,hs,a⟩:=Jz.1 b;obtain⟨i,c,rfl⟩:=QX (d:=BG) hs;rw[h i c]at a;exact absurd a E7
theorem c9x:PS 37 b1j:=by
 refine con [(79,b42)] (by simpa using d7m) c9p c9b b1j ?_ ?_ Tryz.func37 E5 E5 E5 ?_
 .intro args pre s h f;unfold b1j at h;split at h
  .simp only[Iq]at h;obtain⟨⟨q,p,r,L,u,S⟩,hx,rfl,rfl⟩:=h;obtain⟨l,m⟩:=c4v hx f.1;exact⟨(p,r,L,u,S),⟨l,Ji⟩,⟨m,f.2⟩,rfl⟩
  .cases h
 .exact C4
 .rintro⟨p,r,L,u,S⟩ ⟨⟨c9,a,gf,tn⟩,n⟩;refine X0a _ ?_;(repeat' first|constructor|intro h)<;>refine Lm ?_
  refine⟨(0:Nat),⟨Js _,λj c=>absurd c (K3 _)⟩,?_,?_⟩
  .exact X1c
  .intro i o;obtain⟨g,k⟩:=o;replace g:i<=S.length:=g;have hs:i<S.length->(S.getD i BG).ps.length<=100000/\(S.getD i BG).ls.length<=100000:=λh=>n _ (CY h);refine X0a _ ?_;(repeat' first|constructor|intro h)<;>refine Lm ?_
   all_goals(try simp only[In,RT.lst_row]at*)
   all_goals(try first
    |omega
    |exact⟨⟨Bo.is_row _,BW.is_row _,AC.is_row _⟩,LH L a,hs E4,a,f7s a⟩
    |exact A9
    |exact(d85 λj c=>k j E4).symm)
   .have d:(!decide (NJ (S.getD i BG) L=0))=true:=h;exact(g0w (i:=i) E4 (by simpa using d)).symm
   .refine⟨i+1,⟨E4,λj c=> ?_⟩,Ef,?_⟩
    .by_cases e:j<i
     .exact k j e
     .have:j=i:=E4;subst this;have d:(!decide (NJ (S.getD j BG) L=0))=false:=h;simpa using d
    .exact X1e
def IK(W H a b e:Int):Bool:=decide (AW W H a e=0)&&decide (AH W H a e=b)
def PT(W H a b:Int):Option Int:=if IK W H a b 0=true then some 0 else if IK W H a b 1=true then some 1 else if IK W H a b 2=true then some 2 else none
def Xa(W H a b:Int):Int:=if(PT W H a b).isSome=true then a else 0
def YX(W H a b:Int):Int:=(PT W H a b).getD 0
def d43(W H a b:Int):SV:=.agg [.int .i64 (Xa W H (min a b) (max a b)),.int .u8 (YX W H (min a b) (max a b))]
def b9k:AK
 | [.agg [.int .i64 W,.int .i64 H],.agg [.int .u8 _,.int .i64 a,.int .i64 b]]=>some (True,d43 W H a b)
 |_=>none
def f9s:Fam:=⟨(Int×Int)×Int×Int×Int,λ((W,H),s,a,b)=>[.agg [.int .i64 W,.int .i64 H],.agg [.int .u8 s,.int .i64 a,.int .i64 b]],λ_=>True,λ((W,H),_,a,b)=>d43 W H a b⟩
def f71:(Int×Int)×Int×Int×Int->Nat->Option Inv
 |((W,H),s,a,b),3=>some {β:=Nat,ok:=λi=>i<=3/\∀j:Nat,j<i->IK W H (min a b) (max a b) j=false,st:=λi=>⟨[⟨20,none,.int .u8 i⟩,⟨6,none,.int .i64 (max a b)⟩,⟨5,none,.int .i64 (min a b)⟩,⟨4,none,.own 2 0⟩,⟨2,none,.own 0 0⟩],[.cells 26 [.int .i64 W,.int .i64 H],.cells 158 [.int .u8 s,.int .i64 a,.int .i64 b],.cells 100 [.int .i64 0,.int .u8 0]]⟩,μ:=λi=>3-i}
 |_,_=>none
theorem f6b{W H a b:Int}{i:Nat}(hi:i<3)(h:∀j:Nat,j<i->IK W H a b j=false)(c:IK W H a b i=true):PT W H a b=some (i:Int):=by
 rcases(show i=0\/i=1\/i=2 from E4)with rfl|rfl|rfl
 .exact Jf c
 .have d:¬IK W H a b 0=true:=Ij;unfold PT;rw[if_neg d];exact if_pos c
 .have d:¬IK W H a b 0=true:=Ij;have e:¬IK W H a b 1=true:=Im;unfold PT;rw[if_neg d,if_neg e];exact if_pos c
theorem f0n{W H a b:Int}(h:∀j:Nat,j<3->IK W H a b j=false):PT W H a b=none:=by
 have c:¬IK W H a b 0=true:=Ij;have d:¬IK W H a b 1=true:=Im;have e:¬IK W H a b 2=true:=by rw[show IK W H a b 2=false from h 2 E7];decide
 unfold PT;rw[if_neg c,if_neg d,if_neg e]
theorem f8s:PS 75 b9k:=by
 refine con [(110,Tx)] (by simpa using b1f) f9s f71 b9k ?_ ?_ Tryz.func75 E5 E5 E5 ?_
 .intro args pre s h hp;unfold b9k at h;split at h
  .rename_i W H s a b;cases h;exact⟨((W,H),s,a,b),⟨Ej,Ej,Ji⟩,Ji,rfl⟩
  .cases h
 .exact C3
 .rintro⟨⟨W,H⟩,s,a,b⟩ _;refine X0a _ ?_;(repeat' first|constructor|intro h)<;>refine Lm ?_
  refine⟨(0:Nat),⟨Js _,λj d=>absurd d (K3 _)⟩,?_,?_⟩
  .exact X1c
  .intro i k;obtain⟨g,f⟩:=k;replace g:i<=3:=g;refine X0a _ ?_;(repeat' first|constructor|intro h)<;>refine Lm ?_
   all_goals(try simp only[In]at*)
   all_goals(try first
    |exact As
    |(have e:=f6b (i:=i) E4 f (by unfold IK;assumption);simp[Xa,YX,e];done)
    |(have e:=f0n λj d=>f j E4;simp[Xa,YX,e];done))
   .refine⟨i+1,⟨E4,λj d=> ?_⟩,Ef,?_⟩
    .by_cases e:j<i
     .exact f j e
     .have:j=i:=E4;subst this;unfold IK;assumption
    .exact X1e
def XM(u:List Bool)(b:Int):Int:=if u.getD b.toNat GR.d=true then 1 else 2
def b91:AK
 | [x,.agg [.int .u8 _,.int .i64 _,.int .i64 b]]=>(Xo x).map λq=>(q.1/\0<=b/\b<q.2.2.2.2.1.length,.int .u8 (XM q.2.2.2.2.1 b))
 |_=>none
def f5u:Fam:=⟨(Pt×Mv×List Stk×List Bool×List Sm)×Int×Int×Int,λ((p,r,L,u,S),s,a,b)=>[.agg (Ri p r L u S),.agg [.int .u8 s,.int .i64 a,.int .i64 b]],λ((p,_,L,u,S),_,_,b)=>VF p L u S/\0<=b/\b<u.length,λ((_,_,_,u,_),_,_,b)=>.int .u8 (XM u b)⟩
theorem f65:PS 76 b91:=by
 refine con [] E6 f5u (λ_ _=>none) b91 ?_ ?_ Tryz.func76 E5 E5 E5 ?_
 .intro args pre s h c;unfold b91 at h;split at h
  .rename_i x d a b;simp only[Iq]at h;obtain⟨⟨q,p,r,L,u,S⟩,hx,rfl,rfl⟩:=h;obtain⟨e,f⟩:=c4v hx c.1;exact⟨((p,r,L,u,S),d,a,b),⟨e,Ej,Ji⟩,⟨f,c.2⟩,rfl⟩
  .cases h
 .exact C3
 .rintro⟨⟨p,r,L,u,S⟩,s,a,b⟩ c;replace c:VF p L u S/\0<=b/\b<u.length:=c;refine X0a _ ?_;(repeat' first|constructor|intro h)<;>refine Lm ?_
  all_goals(first
   |omega
   |exact(Jf h).symm
   |exact(Jg (by rw[h];decide)).symm
   |skip)
def Sj(v:List Int->List SV)(q:List Int):Int:=match v q with
 | [.int _ m]=>m
 |_=>0
def Rl(h:List Int->Bool)(g:List Int->Int)(w:Bool):List Blk:=[.cells 4 [.bool w],.cells 97 [.omp 2],.map (.ints [.i64,.u8]) false h (λq=>[.int .u8 (g q)])]
def YB(g:List Int->Int)(q:List Int)(k:Int):Bool:= !decide (g q=3)&& !decide (g q=k)
def chFit(h:List Int->Bool)(v:List Int->List SV):Prop:=(∀q,v q=[.int .u8 (Sj v q)])/\∀q,h q=false->Sj v q=0
def f0a:HK:=λa own=>match a,own with
 | [.agg [.int .i64 c,.int .u8 e],.int .u8 k,.own 0 0,.own 1 0],[.cells b [.bool w],.cells d [.omp 2],.map K f h v]=>if b=4/\d=97/\K=.ints [.i64,.u8]/\f=false then some ⟨chFit h v,.tup [],Rl h (Sj v) (w||YB (Sj v) [c,e] k),[]⟩else none
 |_,_=>none
def FChk1:FamH:=⟨(Int×Int×Int)×(List Int->Bool)×(List Int->Int)×Bool,λ((c,e,k),_)=>[.agg [.int .i64 c,.int .u8 e],.int .u8 k,.own 0 0,.own 1 0],λ(_,h,g,w)=>Rl h g w,λ(_,h,g,_)=>∀q,h q=false->g q=0,λ_=>.tup [],λ((c,e,k),h,g,w)=>Rl h g (w||YB g [c,e] k),[]⟩
theorem pChk1:HS 38 f0a:=by
 refine HX {} ⟨E6,E6,E6⟩ FChk1 (λ_ _=>none) f0a ?_ ?_ ?_ Tryz.func38 E5 E5 E5 ?_
 .intro args own r h a;unfold f0a at h;split at h
  .rename_i c e k T1 w T2 K ag hs v;split at h
   .rename_i b;obtain⟨rfl,rfl,rfl,rfl⟩:=b;cases h;obtain⟨d,f⟩:=a;refine⟨((c,e,k),hs,Sj v,w),⟨Ej,Ec,Ec,Ec,Ji⟩,rfl,⟨⟨Ev,E9,Ji⟩,⟨Ev,E9,Ji⟩,⟨⟨rfl,rfl⟩,λ_=>rfl,λq _=>d q⟩,Ji⟩,f,rfl,rfl,rfl⟩
   .cases h
  .cases h
 .intro i;show 4<=_;decide
 .intro i;show 3<=3;decide
 .rintro⟨⟨c,e,k⟩,hs,g,w⟩ μ a;replace a:∀q,hs q=false->g q=0:=a;refine X0a _ ?_;(repeat' first|constructor|intro h)<;>refine Lm ?_
  all_goals(first
   |exact λ_ j=>by rw[a _ j];kernel_rfl
   |exact Be
   |exact Bu
   |rfl
   |skip)
def Tb(p:Pt)(u:List Bool)(x:Lo):List Int×Int:=([Xa p.W p.H (min x.a x.b) (max x.a x.b),YX p.W p.H (min x.a x.b) (max x.a x.b)],XM u x.b)
def Vc(p:Pt)(u:List Bool)(g:List Int->Int)(l:List Lo):Bool:=l.any λx=>YB g (Tb p u x).1 (Tb p u x).2
def Ov(p:Pt)(u:List Bool)(g:List Int->Int)(S:List Sm):Bool:=S.any λs=>Vc p u g s.ls
def loIn(u:List Bool)(S:List Sm):Prop:=∀s∈S,s.ls.length<=100000/\∀x∈s.ls,0<=x.b/\x.b<u.length
def c91:HK:=λa own=>match a,own with
 | [x,.clo f [.own 0 0,.own 1 0]],[.cells b [.bool w],.cells c [.omp 2],.map K d h v]=>if f=38/\b=4/\c=97/\K=.ints [.i64,.u8]/\d=false then
     (Xo x).map λq=>⟨chFit h v/\q.1/\loIn q.2.2.2.2.1 q.2.2.2.2.2,.tup [],Rl h (Sj v) (w||Ov q.2.1 q.2.2.2.2.1 (Sj v) q.2.2.2.2.2),[]⟩else none
 |_,_=>none
def FLoops:FamH:=⟨(Pt×Mv×List Stk×List Bool×List Sm)×(List Int->Bool)×(List Int->Int)×Bool,λ((p,r,L,u,S),_)=>[.agg (Ri p r L u S),.clo 38 [.own 0 0,.own 1 0]],λ(_,h,g,w)=>Rl h g w,λ((p,_,L,u,S),h,g,_)=>VF p L u S/\loIn u S/\∀q,h q=false->g q=0,λ_=>.tup [],λ((p,_,_,u,S),h,g,w)=>Rl h g (w||Ov p u g S),[]⟩
def ILoops:(Pt×Mv×List Stk×List Bool×List Sm)×(List Int->Bool)×(List Int->Int)×Bool->Nat->Option Inv
 |((p,r,L,u,S),h,g,w),2=>some {β:=Nat,ok:=λi=>i<=S.length,st:=λi=>⟨[⟨11,none,.int .i64 i⟩,⟨10,none,.int .i64 S.length⟩,⟨9,none,.sl 9 S.length (GA.row S) none⟩,⟨2,none,.own 3 0⟩,⟨1,none,.clo 38 [.own 0 0,.own 1 0]⟩],Rl h g (w||Ov p u g (S.take i))++[.cells 94 (Ri p r L u S)]⟩,μ:=λi=>S.length-i,sub:=λi=>some fun
  |5=>some {β:=Nat,ok:=λk=>k<=(S.getD i GA.d).ls.length,st:=λk=>⟨[⟨18,none,.int .i64 k⟩,⟨17,none,.int .i64 (S.getD i GA.d).ls.length⟩,⟨16,none,.sl 3 (S.getD i GA.d).ls.length (BW.row (S.getD i GA.d).ls) none⟩,⟨11,none,.int .i64 i⟩,⟨10,none,.int .i64 S.length⟩,⟨9,none,.sl 9 S.length (GA.row S) none⟩,⟨2,none,.own 3 0⟩,⟨1,none,.clo 38 [.own 0 0,.own 1 0]⟩],Rl h g (w||Ov p u g (S.take i)||Vc p u g ((S.getD i GA.d).ls.take k))++[.cells 94 (Ri p r L u S)]⟩,μ:=λk=>(S.getD i GA.d).ls.length-k}
  |_=>none}
 |_,_=>none
theorem f1j{p:Pt}{u:List Bool}{g:List Int->Int}{S:List Sm}{i:Nat}(hi:i<S.length):Ov p u g (S.take (i+1))=(Ov p u g (S.take i)||Vc p u g (S.getD i GA.d).ls):=by rw[IZ (d:=GA.d) hi];simp[Ov]
theorem d8s{p:Pt}{u:List Bool}{g:List Int->Int}{l:List Lo}{i:Nat}(hi:i<l.length):Vc p u g (l.take (i+1))=(Vc p u g (l.take i)||YB g (Tb p u (l.getD i BW.d)).1 (Tb p u (l.getD i BW.d)).2):=by rw[IZ (d:=BW.d) hi];simp[Vc]
theorem pLoops:HS 34 c91:=by
 refine HX {l:=[(75,b9k),(76,b91)],h:=[(38,f0a)],c2:=true} ⟨by simpa using⟨f8s,f65⟩,E6,by simpa using pChk1⟩ FLoops ILoops c91 ?_ ?_ ?_ Tryz.func34 E5 E5 E5 ?_
 .intro args own r h z;unfold c91 at h;split at h
  .rename_i x f T1 w T2 K ag hs v;split at h
   .rename_i A;obtain⟨rfl,rfl,rfl,rfl,rfl⟩:=A;simp only[Jk]at h;obtain⟨⟨q,p,B,L,u,S⟩,hx,rfl⟩:=h;obtain⟨⟨c,e⟩,j,m⟩:=z;obtain⟨C,E⟩:=c4v hx j;refine⟨((p,B,L,u,S),hs,Sj v,w),⟨C,⟨rfl,rfl⟩,Ji⟩,rfl,⟨⟨Ev,E9,Ji⟩,⟨Ev,E9,Ji⟩,⟨⟨rfl,rfl⟩,λ_=>rfl,λq _=>c q⟩,Ji⟩,⟨E,m,e⟩,rfl,rfl,rfl⟩
   .cases h
  .cases h
 .exact C3
 .intro i;show 3<=3;decide
 .rintro⟨⟨p,r,L,u,S⟩,hs,g,w⟩ μ ⟨⟨c,e,j,m⟩,F,n⟩;refine X0a _ ?_;(repeat' first|constructor|intro h)<;>refine Lm ?_
  refine⟨(0:Nat),Js _,?_,?_⟩
  .exact X1g
  .intro i s;replace s:i<=S.length:=s;have G:i<S.length->(S.getD i GA.d).ls.length<=100000/\∀x∈(S.getD i GA.d).ls,0<=x.b/\x.b<u.length:=λh=>F _ (CY h);refine X0a _ ?_;(repeat' first|constructor|intro h)<;>refine Lm ?_
   all_goals(try simp only[In]at*)
   all_goals(try first
    |exact As
    |exact λ_=>Ji
    |exact λ_ _=>Ji
    |(rw[Lp E4];done))
   .have t:i<S.length:=E4;obtain⟨hl1,H⟩:=G t;refine⟨(0:Nat),Js _,?_,?_⟩
    .exact X1g
    .intro k y;replace y:k<=(S.getD i GA.d).ls.length:=y;have hx:k<(S.getD i GA.d).ls.length->0<=((S.getD i GA.d).ls.getD k BW.d).b/\((S.getD i GA.d).ls.getD k BW.d).b<u.length:=λh=>H _ (CY h);refine X0a _ ?_;(repeat' first|constructor|intro h)<;>refine Lm ?_
     all_goals(try simp only[In,RT.lst_row]at*)
     all_goals(try first
      |exact As
      |exact⟨⟨⟨EC _,c⟩,LH L e,⟨GR.isL_row _,j⟩,GA.isL_row _,m⟩,hx E4⟩
      |exact⟨λ_=>rfl,n⟩)
     .have o:k<(S.getD i GA.d).ls.length:=E4;refine⟨k+1,by show k+1<=_;omega,Ff,?_⟩;refine X0a _ ?_;(repeat' first|constructor|intro h)<;>refine Lm ?_
      all_goals first|exact Ag|(rw[d8s o,<-Bool.or_assoc];rfl)|skip
     .have o:k=(S.getD i GA.d).ls.length:=E4;subst o;refine⟨i+1,Ei,Ef,?_⟩;refine X0a _ ?_;(repeat' first|constructor|intro h)<;>refine Lm ?_
      all_goals first|exact Ag|(rw[f1j t,Lj,Bool.or_assoc];done)|skip
section
variable{p:Pt}{r:Mv}{L:List Stk}
theorem f6k(S:SkOK p r L):(GQ p r).length=AF p.W p.H:=by unfold GQ;rw[List.length_map];exact S.P.pl
theorem ofS_ok(b:prOK p r)(c:EV L)(h:CZ p r L=0):VF p L (GQ p r) (GE p r L)/\f5d (GE p r L)/\loIn (GQ p r) (GE p r L):=by
 have S:=f17 h b.2.1 c.2.1;have hN:=CQ S.hs;have e:=Tl (CH p r L) (3*AF p.W p.H);have hu:=f6k S;have hk:(DX p r L).length=(FB (CH p r L) (3*AF p.W p.H)).length:=b4k;have one:∀s∈GE p r L,∃t,t∈FB (CH p r L) (3*AF p.W p.H)/\s=LP (CH p r L) t:=by
  intro s hs;obtain⟨i,g,rfl⟩:=QX (d:=BG) hs;have f:i<(DX p r L).length:=by rw[<-b9p h];exact g
  exact⟨_,CY (d:=BG) (OL (VK f)),c40 h f⟩
 refine⟨⟨b.1.1,c.1,E4,by rw[b9p h];omega⟩,λs hs=> ?_,λs hs=> ?_⟩
 .obtain⟨t,a,rfl⟩:=one s hs;obtain⟨j,k,_⟩:=e.2 t a;exact⟨Hp,Hp⟩
 .obtain⟨t,a,rfl⟩:=one s hs;obtain⟨j,k,_⟩:=e.2 t a;refine⟨Hp,λx hx=> ?_⟩;have:=((XQ S _ (Jm _) t a).ls x ((SJ _ _ _).1 hx)).2.1.2;unfold AR at this;omega
end
theorem Qb(p:Pt):(⟨p.W,p.H,p.l⟩:Pt)=p:=rfl
theorem QJ(r:Mv):(⟨r.t,r.x,r.y⟩:Mv)=r:=rfl
def NP(l:List Cr)(q:List Int):Int:=l.foldl (λa c=>if HB q c=true then c.k else a) 0
theorem c83{l:List Cr}{i:Nat}(hi:i<l.length)(q:List Int):NP (l.take (i+1)) q=if HB q (l.getD i d0)=true then(l.getD i d0).k else NP (l.take i) q:=by
 have:l.take (i+1)=l.take i++[l.getD i d0]:=by rw[Mb];congr 1;simp[hi]
 unfold NP;rw[this,List.foldl_append];rfl
theorem f5p{l:List Cr}{i:Nat}(hi:i<l.length)(q:List Int):DW (decide (q=[(l.getD i d0).c,(l.getD i d0).e])) [SV.int .u8 (l.getD i d0).k] [SV.int .u8 (NP (l.take i) q)]=[SV.int .u8 (NP (l.take (i+1)) q)]:=by
 rw[c83 hi];unfold HB;by_cases e:q=[(l.getD i d0).c,(l.getD i d0).e]
 .rw[K2 e,Jf rfl];rfl
 .rw[K5 e,Jg Bool.false_ne_true];rfl
theorem f45{l:List Cr}{q:List Int}(h:EQ l q=false):NP l q=0:=by
 have:∀(l:List Cr) (a:Int),l.any (HB q)=false->l.foldl (λa c=>if HB q c=true then c.k else a) a=a:=by
  intro l;induction l with
  |nil=>intro a _;rfl
  |cons c l b=>
   intro a h;simp only[List.any_cons,Lz]at h;simp only[Mg,h.1,Iz];exact b a h.2
 exact this l 0 h
def FE(p:Pt)(r:Mv)(L:List Stk):Int:=
 if¬CZ p r L=0 then CZ p r L else if¬OV L (GE p r L)=0 then OV L (GE p r L)else if Ov p (GQ p r) (NP p.l) (GE p r L)=true then 13 else 0
def PC:AK
 | [x]=>(Fo x).map λq=>(q.1,.int .i64 (FE q.2.1 q.2.2.1 q.2.2.2))
 |_=>none
def FCheck:Fam:=⟨Pt×Mv×List Stk,λ(p,r,L)=>[.agg (BD p r L)],λ(p,r,L)=>prOK p r/\EV L,λ(p,r,L)=>.int .i64 (FE p r L)⟩
def ICheck:Pt×Mv×List Stk->Nat->Option Inv
 |(p,r,L),9=>some {β:=Nat,ok:=λi=>i<=p.l.length,st:=λi=>⟨[⟨28,none,.int .i64 i⟩,⟨27,none,.int .i64 p.l.length⟩,⟨26,none,.sl 3 p.l.length (DZ p.l) none⟩,⟨6,none,.own 3 0⟩,⟨3,none,.own 1 0⟩],[.cells 34 (BD p r L),.cells 94 (Ri p r L (GQ p r) (GE p r L)),.map (.ints [.i64,.u8]) false (EQ (p.l.take i)) (λq=>[.int .u8 (NP (p.l.take i) q)]),.cells 97 [.omp 2]]⟩,μ:=λi=>p.l.length-i}
 |_,_=>none
theorem Uk:PS 12 PC:=by
 refine NU {l:=[(33,d9z),(37,b1j)],h:=[(34,c91)],c2:=true} ⟨by simpa using⟨pLook,c9x⟩,E6,by simpa using pLoops⟩ FCheck ICheck PC ?_ ?_ Tryz.func12 E5 E5 E5 ?_
 .intro args pre s h n;unfold PC at h;split at h
  .simp only[Iq]at h;obtain⟨⟨q,p,r,L⟩,hx,rfl,rfl⟩:=h;obtain⟨c,o,t⟩:=Ll hx n;exact⟨(p,r,L),⟨c,Ji⟩,⟨o,t⟩,rfl⟩
  .cases h
 .exact C4
 .rintro⟨p,r,L⟩ ⟨c9,bu⟩;refine X0a _ ?_;(repeat' first|constructor|intro h)<;>refine Lm ?_
  all_goals(try simp only[CR,RT.lst_row,Qb,QJ]at*)
  .exact Dv
  .exact(Jf Ea).symm
  all_goals
   have e:CZ p r L=0:=by first|(simpa using h;done)|(rename_i c;simpa using c;done)
   have f:¬¬CZ p r L=0:=λu=>u e;obtain⟨⟨k1,k2,k3,k4⟩,k5,k6⟩:=ofS_ok c9 bu e;simp only[zP,zR,zL,Jf e]at*
  .exact⟨⟨⟨EC _,k1⟩,LH L k2,⟨GR.isL_row _,k3⟩,GA.isL_row _,k4⟩,k5⟩
  .have b:¬OV L (GE p r L)=0:=Ea;unfold FE;rw[Jg f,Jf b]
  .have b:¬¬OV L (GE p r L)=0:=Ea;refine⟨(0:Nat),Js _,?_,?_⟩
   .refine X0a _ ?_;(repeat' first|constructor|intro h)<;>refine Lm ?_
    all_goals first|exact Ag|(intro q;first|rfl|(intro g;exact absurd g (by simp[EQ])))|skip
   .intro i k;replace k:i<=p.l.length:=k;refine X0a _ ?_;(repeat' first|constructor|intro h)<;>refine Lm ?_
    all_goals(try simp only[In,CR,RT.lst_row,Qb]at*)
    all_goals(try first
     |omega
     |(simp only[AD];have:=c9.1.1;omega)
     |exact⟨⟨λ_=>rfl,λ_ g=>f45 g⟩,⟨⟨EC _,k1⟩,LH L k2,⟨GR.isL_row _,k3⟩,GA.isL_row _,k4⟩,k6⟩)
    .have m:i<p.l.length:=E4;refine⟨i+1,Ei,Ef,?_⟩;refine X0a _ ?_;(repeat' first|constructor|intro h)<;>refine Lm ?_
     all_goals first|exact Ag|exact λq=>b7a m q|exact λq _=>f5p m q|skip
    .have j:i=p.l.length:=E4;subst j;have a:(false||Ov p (GQ p r) (NP (List.take p.l.length p.l)) (GE p r L))=true:=h;rw[Lj,Nj]at a;unfold FE;rw[Jg f,Jg b,Jf a]
    .have j:i=p.l.length:=E4;subst j;have a:(false||Ov p (GQ p r) (NP (List.take p.l.length p.l)) (GE p r L))=false:=h;rw[Lj,Nj]at a;unfold FE;rw[Jg f,Jg b,Jg (by rw[a];decide)]
theorem d62{A B:List Stk}(h:A.Perm B):(BX A).length=(BX B).length:=by unfold BX;exact(List.Perm.flatMap_right _ h).length_eq
theorem f2b{A:List Stk}{f:Stk->Stk}(h:∀s,(f s).l.length=s.l.length):(BX (A.map f)).length=(BX A).length:=by
 induction A with
 |nil=>rfl
 |cons s A a=>
  have b:(BX ((s::A).map f)).length=(f s).l.length+(BX (A.map f)).length:=by simp[BX]
  have c:(BX (s::A)).length=s.l.length+(BX A).length:=by simp[BX]
  rw[b,c,h,a]
theorem Ty{p:Pt}{r:Mv}{L:List Stk}(a:prOK p r)(b:EV L):((ME p.l.length (DZ p.l)/\p.l.length<=100000)/\(∀x∈p.l,AD .u8 x.e)/\0<=r.t/\r.t<=255)/\(AA.isL L.length (AA.row L)/\L.length<=100000/\∀s∈L,s.l.length<=100000)/\(∀x∈L,AD .u8 x.c.q)/\(BX L).length<=100000:=
 ⟨⟨⟨EC _,a.1.1⟩,a.1.2,a.2⟩,LH L b.1,b.2⟩
theorem d3x{A:List Stk}(h:ET A):AA.isL A.length (AA.row A)/\A.length<=100000/\∀s∈A,s.l.length<=100000:=LH A h
def HO:RT (Int×Int):=⟨2,λx=>[.int .u8 x.1,.int .i64 x.2],λl=>match l with
 | [.int _ a,.int _ b]=>(a,b)
 |_=>(0,0),(0,0),λ_=>rfl⟩
def DR:RT Cr:=⟨3,λx=>[.int .i64 x.c,.int .u8 x.e,.int .u8 x.k],λl=>match l with
 | [.int _ a,.int _ b,.int _ c]=>⟨a,b,c⟩
 |_=>⟨0,0,0⟩,⟨0,0,0⟩,λ_=>rfl⟩
def NB(x:Cr):List Int:=[x.c,x.e]
theorem OJ(p:Pt)(r:Mv)(L:List Stk):∃q,Fo (.agg (BD p r L))=some (q,p,r,L)/\(prOK p r->EV L->q):=by
 have b:(⟨p.W,p.H,EK p.l.length (DZ p.l)⟩:Pt)=p:=by rw[CR]
 have c:AA.lst L.length (AA.row L)=L:=RT.lst_row _ _;have a:∃q,Fo (.agg (BD p r L))=some (q,⟨p.W,p.H,EK p.l.length (DZ p.l)⟩,⟨r.t,r.x,r.y⟩,AA.lst L.length (AA.row L))/\(prOK p r->EV L->q):=⟨_,rfl,λd e=>by have:=Ty d e;simp only[RT.lst_row,CR];exact this⟩
 rw[b,c]at a;exact a
def YN:AK
 | [.int .i64 a,.int .i64 b]=>some (b=6/\ -1000000<=a/\a<=1000000,.int .i64 (a/6))
 |_=>none
def FDn:Fam:=⟨Int×Int,λ(a,b)=>[.int .i64 a,.int .i64 b],λ(a,b)=>b=6/\ -1000000<=a/\a<=1000000,λ(a,_)=>.int .i64 (a/6)⟩
theorem pDn:PS 51 YN:=by
 refine con [] E6 FDn (λ_ _=>none) YN ?_ ?_ Tryz.func51 E5 E5 E5 ?_
 .intro args pre s h e;unfold YN at h;split at h
  .rename_i a b;cases h;exact⟨(a,b),by simp[FDn,BN,SV.le2,SV.le1,SV.le0],e,rfl⟩
  .cases h
 .exact C3
 .rintro⟨a,b⟩ ⟨rfl,h1,h2⟩;have c:0<=a->a.tdiv 6=a/6:=λh=>Lw h;have f:a<0-> -((-a+6-1).tdiv 6)=a/6:=λh=>by rw[Lw E4];omega
  have d:a<0->(-a+6-1).tdiv 6=(-a+6-1)/6:=λh=>Lw E4;refine X0a _ ?_;(repeat' first|constructor|intro h)<;>refine Lm ?_
  all_goals(try simp only[Iv]at*)
  all_goals(first
   |exact c E4
   |exact f E4
   |decide
   |exact A9
   |(rw[d E4];simp only[AD];omega)
   |(rw[c E4];simp only[AD];omega)
   |(intro _;rw[d E4];simp only[AD];omega)
   |(intro _;rw[c E4];simp only[AD];omega)
   |skip)
def Yn(X Y:Int):Int:=if Y%6<X%6/\X%6+Y%6<6 then 0 else if Y%6<X%6 then 1 else if 6<X%6+Y%6 then 2 else 3
def d9m:AK
 | [.agg [.int .i64 X,.int .i64 Y]]=>some ((-1000000<=X/\X<=1000000)/\ -1000000<=Y/\Y<=1000000,.agg [.int .i64 (X/6),.int .i64 (Y/6),.int .u8 (Yn X Y)])
 |_=>none
def FAt25:Fam:=⟨Int×Int,λ(X,Y)=>[.agg [.int .i64 X,.int .i64 Y]],λ(X,Y)=>(-1000000<=X/\X<=1000000)/\ -1000000<=Y/\Y<=1000000,λ(X,Y)=>.agg [.int .i64 (X/6),.int .i64 (Y/6),.int .u8 (Yn X Y)]⟩
theorem pAt25:PS 48 d9m:=by
 refine con [(51,YN)] (by simpa using pDn) FAt25 (λ_ _=>none) d9m ?_ ?_ Tryz.func48 E5 E5 E5 ?_
 .intro args pre s h a;unfold d9m at h;split at h
  .rename_i X Y;cases h;exact⟨(X,Y),by simp[FAt25,BN,SV.le2,SV.le1,BJ,SV.le0],a,rfl⟩
  .cases h
 .exact C4
 .rintro⟨X,Y⟩ a;replace a:(-1000000<=X/\X<=1000000)/\ -1000000<=Y/\Y<=1000000:=a;refine X0a _ ?_;(repeat' first|constructor|intro h)<;>refine Lm ?_
  all_goals(try simp only[Iv,It]at*)
  all_goals(first
   |omega
   |decide
   |exact⟨rfl,E4,E4⟩
   |exact⟨Ji,E4,E4⟩
   |exact A9
   |exact Ar
   |(unfold Yn;repeat (first|rw[if_pos E4]|rw[if_neg E4]))
   |skip)
def MY(X Q:Int):Nat->Int:=tb [6*X+3,if Q=0 then 6*X else if Q=1 then 6*X+6 else if Q=2 then 6*X+6 else 6*X,if Q=0 then 6*X+6 else if Q=1 then 6*X+6 else 6*X]
def MR(Y Q:Int):Nat->Int:=tb [6*Y+3,if Q=0 then 6*Y else if Q=1 then 6*Y else if Q=2 then 6*Y+6 else 6*Y+6,if Q=0 then 6*Y else if Q=1 then 6*Y+6 else if Q=2 then 6*Y+6 else 6*Y]
def kCn:AK
 | [.agg [.int .i64 X,.int .i64 Y,.int .u8 Q]]=>some ((-30000<=X/\X<=30000)/\ -30000<=Y/\Y<=30000,.agg [.int .i64 (MY X Q 0),.int .i64 (MR Y Q 0),.int .i64 (MY X Q 1),.int .i64 (MR Y Q 1),.int .i64 (MY X Q 2),.int .i64 (MR Y Q 2)])
 |_=>none
def FCn:Fam:=⟨Int×Int×Int,λ(X,Y,Q)=>[.agg [.int .i64 X,.int .i64 Y,.int .u8 Q]],λ(X,Y,_)=>(-30000<=X/\X<=30000)/\ -30000<=Y/\Y<=30000,λ(X,Y,Q)=>.agg [.int .i64 (MY X Q 0),.int .i64 (MR Y Q 0),.int .i64 (MY X Q 1),.int .i64 (MR Y Q 1),.int .i64 (MY X Q 2),.int .i64 (MR Y Q 2)]⟩
theorem pCn:PS 64 kCn:=by
 refine con [] E6 FCn (λ_ _=>none) kCn ?_ ?_ Tryz.func64 E5 E5 E5 ?_
 .intro args pre s h a;unfold kCn at h;split at h
  .rename_i X Y Q;cases h;exact⟨(X,Y,Q),by simp[FCn,BN,SV.le2,SV.le1,BJ,SV.le0],a,rfl⟩
  .cases h
 .exact C4
 .rintro⟨X,Y,Q⟩ a;replace a:(-30000<=X/\X<=30000)/\ -30000<=Y/\Y<=30000:=a;refine X0a _ ?_;(repeat' first|constructor|intro h)<;>refine Lm ?_
  all_goals(try simp only[AD])
  all_goals(try omega)
  all_goals(simp only[Iv]at*)
  all_goals(try subst Q)
  all_goals(first|(simp[MY,MR,tb, *];done)|skip)
def HP(X Q:Int):Int:=if Q=1 then 6*X+5 else if Q=3 then 6*X+1 else 6*X+3
def HU(Y Q:Int):Int:=if Q=0 then 6*Y+1 else if Q=2 then 6*Y+5 else 6*Y+3
def Yi:AK
 | [.agg [.int .i64 X,.int .i64 Y,.int .u8 Q]]=>some ((-30000<=X/\X<=30000)/\(-30000<=Y/\Y<=30000)/\0<=Q/\Q<=3,.agg [.int .i64 (HP X Q),.int .i64 (HU Y Q)])
 |_=>none
def FIn25:Fam:=⟨Int×Int×Int,λ(X,Y,Q)=>[.agg [.int .i64 X,.int .i64 Y,.int .u8 Q]],λ(X,Y,Q)=>(-30000<=X/\X<=30000)/\(-30000<=Y/\Y<=30000)/\0<=Q/\Q<=3,λ(X,Y,Q)=>.agg [.int .i64 (HP X Q),.int .i64 (HU Y Q)]⟩
theorem pIn25:PS 50 Yi:=by
 refine con [(64,kCn)] (by simpa using pCn) FIn25 (λ_ _=>none) Yi ?_ ?_ Tryz.func50 E5 E5 E5 ?_
 .intro args pre s h a;unfold Yi at h;split at h
  .rename_i X Y Q;cases h;exact⟨(X,Y,Q),by simp[FIn25,BN,SV.le2,SV.le1,BJ,SV.le0],a,rfl⟩
  .cases h
 .exact C4
 .rintro⟨X,Y,Q⟩ a;replace a:(-30000<=X/\X<=30000)/\(-30000<=Y/\Y<=30000)/\0<=Q/\Q<=3:=a;have b:Q=0\/Q=1\/Q=2\/Q=3:=E4;have f:(MY X Q 0+MY X Q 1+MY X Q 2)=3*HP X Q:=by
   rcases b with rfl|rfl|rfl|rfl<;>simp[MY,tb,HP]<;>omega
  have g:(MR Y Q 0+MR Y Q 1+MR Y Q 2)=3*HU Y Q:=by rcases b with rfl|rfl|rfl|rfl<;>simp[MR,tb,HU]<;>omega
  have c:∀i,i<3-> -200000<=MY X Q i/\MY X Q i<=200000:=λi j=>by have d:i=0\/i=1\/i=2:=E4;rcases d with rfl|rfl|rfl<;>rcases b with rfl|rfl|rfl|rfl<;>simp[MY,tb]<;>omega
  have e:∀i,i<3-> -200000<=MR Y Q i/\MR Y Q i<=200000:=λi j=>by have d:i=0\/i=1\/i=2:=E4;rcases d with rfl|rfl|rfl<;>rcases b with rfl|rfl|rfl|rfl<;>simp[MR,tb]<;>omega
  have x0:=c 0 E4;have x1:=c 1 E4;have x2:=c 2 E4;have y0:=e 0 E4;have y1:=e 1 E4;have y2:=e 2 E4;have k:(3*HP X Q).tdiv 3=HP X Q:=Int.mul_tdiv_cancel_left _ E4;have l:(3*HU Y Q).tdiv 3=HU Y Q:=Int.mul_tdiv_cancel_left _ E4;refine X0a _ ?_;(repeat' first|constructor|intro h)<;>refine Lm ?_
  all_goals(try simp only[f,g,k,l])
  all_goals(first|exact B8|exact⟨⟨E4,E4⟩,E4,E4⟩|exact A9|exact Ar|decide|skip)
def kL25:AK
 | [.int .i64 a,.int .i64 b]=>some (True,.int .i64 (max a b))
 |_=>none
def FL25:Fam:=⟨Int×Int,λ(a,b)=>[.int .i64 a,.int .i64 b],λ(_,_)=>True,λ(a,b)=>.int .i64 (max a b)⟩
theorem pL25:PS 81 kL25:=by
 refine con [] E6 FL25 (λ_ _=>none) kL25 ?_ ?_ Tryz.func81 E5 E5 E5 ?_
 .intro args pre s h c;unfold kL25 at h;split at h
  .rename_i a b;cases h;exact⟨(a,b),by simp[FL25,BN,SV.le2,SV.le1,SV.le0],c,rfl⟩
  .cases h
 .exact C3
 .rintro⟨a,b⟩ c;replace c:True:=c;refine X0a _ ?_;(repeat' first|constructor|intro h)<;>refine Lm ?_
  all_goals(simp only[Iv]at*)
  all_goals(first|omega|skip)
def EY(a b:Int×Int×Int):Int×Int×Int:=if a.1≠b.1 then(4,2*max a.1 b.1,0)else if a.2.1≠b.2.1 then(6,0,2*max a.2.1 b.2.1)else if a.2.2+b.2.2=1\/a.2.2+b.2.2=5 then(5,a.1+a.2.1+1,a.1+a.2.1+1)else(7,a.1-a.2.1,a.2.1-a.1)
def Xv:AK
 | [.agg [.int .i64 a,.int .i64 b,.int .u8 c],.agg [.int .i64 d,.int .i64 e,.int .u8 f]]=>some (((-30000<=a/\a<=30000)/\(-30000<=b/\b<=30000)/\0<=c/\c<=3)/\(-30000<=d/\d<=30000)/\(-30000<=e/\e<=30000)/\0<=f/\f<=3,.agg [.int .u8 (EY (a,b,c) (d,e,f)).1,.int .i64 (EY (a,b,c) (d,e,f)).2.1,.int .i64 (EY (a,b,c) (d,e,f)).2.2])
 |_=>none
def FM25:Fam:=⟨Int×Int×Int×Int×Int×Int,λ(a,b,c,d,e,f)=>[.agg [.int .i64 a,.int .i64 b,.int .u8 c],.agg [.int .i64 d,.int .i64 e,.int .u8 f]],λ(a,b,c,d,e,f)=>((-30000<=a/\a<=30000)/\(-30000<=b/\b<=30000)/\0<=c/\c<=3)/\(-30000<=d/\d<=30000)/\(-30000<=e/\e<=30000)/\0<=f/\f<=3,λ(a,b,c,d,e,f)=>.agg [.int .u8 (EY (a,b,c) (d,e,f)).1,.int .i64 (EY (a,b,c) (d,e,f)).2.1,.int .i64 (EY (a,b,c) (d,e,f)).2.2]⟩
theorem pM25:PS 42 Xv:=by
 refine con [(81,kL25)] (by simpa using pL25) FM25 (λ_ _=>none) Xv ?_ ?_ Tryz.func42 E5 E5 E5 ?_
 .intro args pre s h g;unfold Xv at h;split at h
  .rename_i a b c d e f;cases h;exact⟨(a,b,c,d,e,f),by simp[FM25,BN,SV.le2,SV.le1,BJ,SV.le0],g,rfl⟩
  .cases h
 .exact C3
 .rintro⟨a,b,c,d,e,f⟩ g;replace g:((-30000<=a/\a<=30000)/\(-30000<=b/\b<=30000)/\0<=c/\c<=3)/\(-30000<=d/\d<=30000)/\(-30000<=e/\e<=30000)/\0<=f/\f<=3:=g;refine X0a _ ?_;(repeat' first|constructor|intro h)<;>refine Lm ?_
  all_goals(try simp only[Iv,Ip,Iy]at*)
  all_goals(first
   |trivial
   |exact A9
   |exact Ar
   |(simp[EY, *];done)
   |(simp only[EY];repeat (first|rw[Jf E4]|rw[Jg E4]))
   |skip)
def OU:Nat->Int->Int->Int×Int
 |0,a,b=>(a,b)
 |i+1,a,b=>(-(OU i a b).2,(OU i a b).1)
def PK(t X:Int):Int:=if 4<=t then -X else X
theorem d3m{a b K:Int}(c: -K<=a/\a<=K)(d: -K<=b/\b<=K):∀i,(-K<=(OU i a b).1/\(OU i a b).1<=K)/\ -K<=(OU i a b).2/\(OU i a b).2<=K
 |0=>⟨c,d⟩
 |i+1=>by have:=d3m c d i;simp only[OU];omega
theorem f5n{t X Y:Int}(h:0<=t/\t<=7):OU (t%4).toNat (PK t X) Y=AL t X Y:=by have a:t=0\/t=1\/t=2\/t=3\/t=4\/t=5\/t=6\/t=7:=E4;rcases a with rfl|rfl|rfl|rfl|rfl|rfl|rfl|rfl<;>simp[OU,PK,AL]
def IGo:Int×Int×Int×Int×Int->Nat->Option Inv
 |(t,x,y,X,Y),5=>some {β:=Nat,ok:=λi=>(i:Int)<=t%4,st:=λi=>⟨[⟨7,none,.int .i64 i⟩,⟨6,none,.int .i64 (OU i (PK t X) Y).2⟩,⟨5,none,.int .i64 (OU i (PK t X) Y).1⟩,⟨4,none,.own 2 0⟩,⟨2,none,.own 0 0⟩],[.cells 31 [.int .u8 t,.int .i64 x,.int .i64 y],.cells 82 [.int .i64 X,.int .i64 Y],.cells 82 [.int .i64 0,.int .i64 0]]⟩,μ:=λi=>(t%4).toNat-i}
 |_,_=>none
def Xf:AK
 | [.agg [.int .u8 t,.int .i64 x,.int .i64 y],.agg [.int .i64 X,.int .i64 Y]]=>some ((0<=t/\t<=7)/\((-50000<=x/\x<=50000)/\ -50000<=y/\y<=50000)/\(-300000<=X/\X<=300000)/\ -300000<=Y/\Y<=300000,.agg [.int .i64 ((AL t X Y).1+6*x),.int .i64 ((AL t X Y).2+6*y)])
 |_=>none
def FGo25:Fam:=⟨Int×Int×Int×Int×Int,λ(t,x,y,X,Y)=>[.agg [.int .u8 t,.int .i64 x,.int .i64 y],.agg [.int .i64 X,.int .i64 Y]],λ(t,x,y,X,Y)=>(0<=t/\t<=7)/\((-50000<=x/\x<=50000)/\ -50000<=y/\y<=50000)/\(-300000<=X/\X<=300000)/\ -300000<=Y/\Y<=300000,λ(t,x,y,X,Y)=>.agg [.int .i64 ((AL t X Y).1+6*x),.int .i64 ((AL t X Y).2+6*y)]⟩
theorem pGo25:PS 49 Xf:=by
 refine con [] E6 FGo25 IGo Xf ?_ ?_ Tryz.func49 E5 E5 E5 ?_
 .intro args pre s h f;unfold Xf at h;split at h
  .rename_i t x y X Y;cases h;exact⟨(t,x,y,X,Y),by simp[FGo25,BN,SV.le2,SV.le1,BJ,SV.le0],f,rfl⟩
  .cases h
 .exact C3
 .rintro⟨t,x,y,X,Y⟩ ⟨c,⟨hx,hy⟩,hX,g⟩;have j:t.tmod 4=t%4:=Km c.1;have k: -300000<=PK t X/\PK t X<=300000:=by unfold PK;split<;>omega
  have l:=@d3m (PK t X) Y 300000 k g;all_goals refine X0a _ ?_;(repeat' first|constructor|intro h)<;>refine Lm ?_
  all_goals(try simp only[Iv]at*)
  all_goals(try first
   |exact A9
   |exact Ar)
  all_goals
   refine⟨(0:Nat),by show (0:Int)<=t%4;omega,?_,?_⟩
   .refine X0a _ ?_;(repeat' first|constructor|intro h)<;>refine Lm ?_
    all_goals first|exact A5|(show _=PK t X;unfold PK;first|rw[if_pos E4]|rw[if_neg E4])|skip
   .intro i d;replace d:(i:Int)<=t%4:=d;have m:=l i;have b:(i:Int)=t%4->OU i (PK t X) Y=AL t X Y:=λe=>by
     rw[<-f5n c];congr 1;omega
    refine X0a _ ?_;(repeat' first|constructor|intro h)<;>refine Lm ?_
    all_goals(try simp only[j,Iv]at*)
    all_goals(try first
     |decide
     |exact A9
     |exact Ar
     |(rw[b E4];done)
     |(rw[b E4]at m;rw[b E4];simp only[AD];omega))
    all_goals(try
     refine⟨i+1,by show ((i+1:Nat):Int)<=t%4;omega,by show (t%4).toNat-(i+1)<(t%4).toNat-i;omega,?_⟩;all_goals refine X0a _ ?_;(repeat' first|constructor|intro h)<;>refine Lm ?_
     all_goals first|exact At|skip)
theorem in_le{X Q:Int}(_:0<=Q/\Q<=3):6*X+1<=HP X Q/\HP X Q<=6*X+5:=by unfold HP;repeat' split<;>omega
theorem f5a{X Q:Int}(_:0<=Q/\Q<=3):6*X+1<=HU X Q/\HU X Q<=6*X+5:=by unfold HU;repeat' split<;>omega
theorem img_eq{t x y X Y Q:Int}(ht:0<=t/\t<=7)(a:0<=Q/\Q<=3):((AL t (HP X Q) (HU Y Q)).1+6*x)/6=(sq t X Y).1+x/\((AL t (HP X Q) (HU Y Q)).2+6*y)/6=(sq t X Y).2+y/\Yn ((AL t (HP X Q) (HU Y Q)).1+6*x) ((AL t (HP X Q) (HU Y Q)).2+6*y)=tq t Q:=by have b:t=0\/t=1\/t=2\/t=3\/t=4\/t=5\/t=6\/t=7:=E4;have c:=EW a;rcases b with rfl|rfl|rfl|rfl|rfl|rfl|rfl|rfl<;>rcases c with rfl|rfl|rfl|rfl<;>simp only[AL,HP,HU,sq,tq,tb,Yn]<;>refine⟨?_,?_,?_⟩<;>simp<;>(try omega)<;>((repeat' split)<;>omega)
def UO:AK
 | [.agg [.int .u8 t,.int .i64 x,.int .i64 y],.agg [.int .i64 X,.int .i64 Y,.int .u8 Q]]=>some ((0<=t/\t<=7)/\((-50000<=x/\x<=50000)/\ -50000<=y/\y<=50000)/\(-30000<=X/\X<=30000)/\(-30000<=Y/\Y<=30000)/\0<=Q/\Q<=3,.agg [.int .i64 ((sq t X Y).1+x),.int .i64 ((sq t X Y).2+y),.int .u8 (tq t Q)])
 |_=>none
def FImg:Fam:=⟨Int×Int×Int×Int×Int×Int,λ(t,x,y,X,Y,Q)=>[.agg [.int .u8 t,.int .i64 x,.int .i64 y],.agg [.int .i64 X,.int .i64 Y,.int .u8 Q]],λ(t,x,y,X,Y,Q)=>(0<=t/\t<=7)/\((-50000<=x/\x<=50000)/\ -50000<=y/\y<=50000)/\(-30000<=X/\X<=30000)/\(-30000<=Y/\Y<=30000)/\0<=Q/\Q<=3,λ(t,x,y,X,Y,Q)=>.agg [.int .i64 ((sq t X Y).1+x),.int .i64 ((sq t X Y).2+y),.int .u8 (tq t Q)]⟩
theorem pImg:PS 18 UO:=by
 refine con [(50,Yi),(49,Xf),(48,d9m)] (by simpa using⟨pIn25,pGo25,pAt25⟩) FImg (λ_ _=>none) UO ?_ ?_ Tryz.func18 E5 E5 E5 ?_
 .intro args pre s h c;unfold UO at h;split at h
  .rename_i t x y X Y Q;cases h;exact⟨(t,x,y,X,Y,Q),by simp[FImg,BN,SV.le2,SV.le1,BJ,SV.le0],c,rfl⟩
  .cases h
 .exact C3
 .rintro⟨t,x,y,X,Y,Q⟩ ⟨b,⟨hx,d⟩,e,f,a⟩;obtain⟨g,j,k⟩:=@img_eq t x y X Y Q b a;have b1:=@in_le X Q a;have b2:=@f5a Y Q a;have l:t=0\/t=1\/t=2\/t=3\/t=4\/t=5\/t=6\/t=7:=E4;have m:(-250000<=(AL t (HP X Q) (HU Y Q)).1/\(AL t (HP X Q) (HU Y Q)).1<=250000)/\ -250000<=(AL t (HP X Q) (HU Y Q)).2/\(AL t (HP X Q) (HU Y Q)).2<=250000:=by
   rcases l with rfl|rfl|rfl|rfl|rfl|rfl|rfl|rfl<;>simp only[AL]<;>simp<;>omega
  refine X0a _ ?_;(repeat' first|constructor|intro h)<;>refine Lm ?_
  all_goals(first
   |exact g
   |exact j
   |exact k
   |exact⟨e,f,a⟩
   |exact⟨b,⟨hx,d⟩,⟨E4,E4⟩,E4,E4⟩
   |exact⟨⟨E4,E4⟩,E4,E4⟩
   |(obtain⟨⟨l1,l2⟩,l3,l4⟩:=m;exact⟨⟨E4,E4⟩,E4,E4⟩)
   |skip)
def r8:List Int:=[0,1,2,3,4,5,6,7]
def f7h(f s t:Int):Bool:=decide (AL t 6 0=AL s (AL f 6 0).1 (AL f 6 0).2)&&decide (AL t 0 6=AL s (AL f 0 6).1 (AL f 0 6).2)
theorem f13:(r8.all λf=>r8.all λs=>r8.all λt=>f7h f s t==decide (t=tt f s))=true:=Ft
theorem Po{t:Int}(h:0<=t/\t<=7):t∈r8:=by have a:t=0\/t=1\/t=2\/t=3\/t=4\/t=5\/t=6\/t=7:=E4;rcases a with rfl|rfl|rfl|rfl|rfl|rfl|rfl|rfl<;>decide
theorem f5x{f s t:Int}(a:0<=f/\f<=7)(hs:0<=s/\s<=7)(b:0<=t/\t<=7):f7h f s t=decide (t=tt f s):=by have:=Jp.1 (Jp.1 (Jp.1 f13 f (Po a)) s (Po hs)) t (Po b);simpa using this
theorem tt_le0:(r8.all λf=>r8.all λs=>decide (0<=tt f s)&&decide (tt f s<=7))=true:=Ft
theorem tt_le{f s:Int}(a:0<=f/\f<=7)(hs:0<=s/\s<=7):0<=tt f s/\tt f s<=7:=by have:=Jp.1 (Jp.1 tt_le0 f (Po a)) s (Po hs);simpa using this
theorem d1g{t a b c d:Int}(ht:0<=t/\t<=7):(AL t (a+c) (b+d)).1=(AL t a b).1+(AL t c d).1/\(AL t (a+c) (b+d)).2=(AL t a b).2+(AL t c d).2:=by have e:t=0\/t=1\/t=2\/t=3\/t=4\/t=5\/t=6\/t=7:=E4;rcases e with rfl|rfl|rfl|rfl|rfl|rfl|rfl|rfl<;>simp[AL]<;>omega
theorem d6v{t a b:Int}(ht:0<=t/\t<=7):(AL t (6*a) (6*b)).1=6*(AL t a b).1/\(AL t (6*a) (6*b)).2=6*(AL t a b).2:=by have c:t=0\/t=1\/t=2\/t=3\/t=4\/t=5\/t=6\/t=7:=E4;rcases c with rfl|rfl|rfl|rfl|rfl|rfl|rfl|rfl<;>simp[AL]<;>omega
theorem TS{t a b K:Int}(ha: -K<=a/\a<=K)(hb: -K<=b/\b<=K):(-K<=(AL t a b).1/\(AL t a b).1<=K)/\ -K<=(AL t a b).2/\(AL t a b).2<=K:=by
 unfold AL;repeat' split
 all_goals(dsimp only;omega)
theorem lin_0{t:Int}(ht:0<=t/\t<=7):AL t 0 0=(0,0):=by have a:t=0\/t=1\/t=2\/t=3\/t=4\/t=5\/t=6\/t=7:=E4;rcases a with rfl|rfl|rfl|rfl|rfl|rfl|rfl|rfl<;>rfl
theorem th_o{t x y u z w a b:Int}(_:0<=t/\t<=7)(c:0<=u/\u<=7):(AL u ((AL t a b).1+6*x) ((AL t a b).2+6*y)).1+6*z=(AL u (AL t a b).1 (AL t a b).2).1+6*((AL u x y).1+z)/\(AL u ((AL t a b).1+6*x) ((AL t a b).2+6*y)).2+6*w=(AL u (AL t a b).1 (AL t a b).2).2+6*((AL u x y).2+w):=by have d:=@d1g u (AL t a b).1 (AL t a b).2 (6*x) (6*y) c;have e:=@d6v u x y c;rw[d.1,d.2,e.1,e.2];omega
def thV(t x y u z w:Int):List SV:=[.int .u8 (tt t u),.int .i64 ((AL u x y).1+z),.int .i64 ((AL u x y).2+w)]
def thP(t x y u z w a b:Int):List SV:=[.int .i64 ((AL u ((AL t a b).1+6*x) ((AL t a b).2+6*y)).1+6*z),.int .i64 ((AL u ((AL t a b).1+6*x) ((AL t a b).2+6*y)).2+6*w)]
def ITh25:Int×Int×Int×Int×Int×Int->Nat->Option Inv
 |(t,x,y,u,z,w),5=>some {β:=Nat,ok:=λi=>(i:Int)<=tt t u,st:=λi=>⟨[⟨8,none,.int .u8 i⟩,⟨7,none,.own 5 0⟩,⟨6,none,.own 4 0⟩,⟨5,none,.own 3 0⟩,⟨4,none,.own 2 0⟩],[.cells 31 [.int .u8 t,.int .i64 x,.int .i64 y],.cells 31 [.int .u8 u,.int .i64 z,.int .i64 w],.cells 31 [.int .u8 0,.int .i64 0,.int .i64 0],.cells 82 (thP t x y u z w 0 0),.cells 82 (thP t x y u z w 6 0),.cells 82 (thP t x y u z w 0 6)]⟩,μ:=λi=>8-i}
 |_,_=>none
def TV:AK
 | [.agg [.int .u8 t,.int .i64 x,.int .i64 y],.agg [.int .u8 u,.int .i64 z,.int .i64 w]]=>some (((0<=t/\t<=7)/\(-20000<=x/\x<=20000)/\ -20000<=y/\y<=20000)/\(0<=u/\u<=7)/\(-20000<=z/\z<=20000)/\ -20000<=w/\w<=20000,.agg (thV t x y u z w))
 |_=>none
def FTh25:Fam:=⟨Int×Int×Int×Int×Int×Int,λ(t,x,y,u,z,w)=>[.agg [.int .u8 t,.int .i64 x,.int .i64 y],.agg [.int .u8 u,.int .i64 z,.int .i64 w]],λ(t,x,y,u,z,w)=>((0<=t/\t<=7)/\(-20000<=x/\x<=20000)/\ -20000<=y/\y<=20000)/\(0<=u/\u<=7)/\(-20000<=z/\z<=20000)/\ -20000<=w/\w<=20000,λ(t,x,y,u,z,w)=>.agg (thV t x y u z w)⟩
theorem d8e:PS 20 TV:=by
 refine con [(49,Xf),(51,YN)] (by simpa using⟨pGo25,pDn⟩) FTh25 ITh25 TV ?_ ?_ Tryz.func20 E5 E5 E5 ?_
 .intro args pre s h C;unfold TV at h;split at h
  .rename_i t x y u z w;cases h;exact⟨(t,x,y,u,z,w),by simp[FTh25,BN,SV.le2,SV.le1,BJ,SV.le0],C,rfl⟩
  .cases h
 .exact C3
 .rintro⟨t,x,y,u,z,w⟩ ⟨⟨g,hx,E⟩,f,hz,hw⟩;have hX:=@TS u x y 20000 hx E;have F:=tt_le g f;have k:=lin_0 g;have m:=lin_0 f;have n:=@TS t 6 0 6 E4 E4;have o:=@TS t 0 6 6 E4 E4;have b1:=@TS u (AL t 6 0).1 (AL t 6 0).2 6 n.1 n.2;have b2:=@TS u (AL t 0 6).1 (AL t 0 6).2 6 o.1 o.2;have l:=@d6v u x y f;have o1:=@th_o t x y u z w 6 0 g f;have o2:=@th_o t x y u z w 0 6 g f;have j:=@th_o t x y u z w 0 0 g f;simp only[k,m]at j;refine AB _ ?_;(repeat' first|constructor|refine Iu λf=> ?_|intro h)<;>refine Lm ?_
  all_goals(try first
   |exact⟨g,⟨E4,E4⟩,E4,E4⟩
   |exact⟨f,⟨E4,E4⟩,⟨E4,E4⟩,E4,E4⟩
   |(simp only[k];exact⟨f,⟨E4,E4⟩,⟨E4,E4⟩,E4,E4⟩))
  refine⟨(0:Nat),F.1,?_,?_⟩
  .refine AB _ ?_;(repeat' first|constructor|refine Iu λf=> ?_|intro h)<;>refine Lm ?_
   all_goals first|exact A5|skip
  .intro i q;replace q:(i:Int)<=tt t u:=q;have r:((AL i 6 0).1=(AL u (AL t 6 0).1 (AL t 6 0).2).1/\(AL i 6 0).2=(AL u (AL t 6 0).1 (AL t 6 0).2).2/\(AL i 0 6).1=(AL u (AL t 0 6).1 (AL t 0 6).2).1/\(AL i 0 6).2=(AL u (AL t 0 6).1 (AL t 0 6).2).2)↔(i:Int)=tt t u:=by
    have:=@f5x t u i g f E4;unfold f7h at this;have v:=Md (· =true) this;simp only[Ix,Prod.ext_iff,eq_iff_iff]at v;rw[<-v];exact⟨λ⟨a,b,c,d⟩=>⟨⟨a,b⟩,c,d⟩,λ⟨⟨a,b⟩,c,d⟩=>⟨a,b,c,d⟩⟩
   have k1:=@TS (i:Int) 6 0 6 E4 E4;have k2:=@TS (i:Int) 0 6 6 E4 E4;have A:(6*((AL u x y).1+z))/6=(AL u x y).1+z:=E4;have B:(6*((AL u x y).2+w))/6=(AL u x y).2+w:=E4;refine AB _ ?_;(repeat' first|constructor|refine Iu λf=> ?_|intro h)<;>refine Lm ?_
   all_goals(try simp only[Iv,It,N4]at*)
   all_goals(try simp only[k,o1.1,o1.2,o2.1,o2.2,Int.zero_add,l.1,l.2,<-Int.mul_add,A,B]at h)
   all_goals(try simp only[k,o1.1,o1.2,o2.1,o2.2,Int.zero_add,l.1,l.2,<-Int.mul_add,A,B])
   all_goals(try first
    |exact⟨Ji,E4,E4⟩
    |exact⟨⟨E4,E4⟩,⟨⟨E4,E4⟩,E4,E4⟩,⟨E4,E4⟩,E4,E4⟩
    |exact A9
    |(intro _;exact⟨⟨E4,E4⟩,⟨⟨E4,E4⟩,E4,E4⟩,⟨E4,E4⟩,E4,E4⟩)
    |exact C2
    |exact r.1 ⟨E4,E4,E4,E4⟩
    |omega)
   have ba:(i:Int)≠tt t u:=λe=>by obtain⟨G,H,I,J⟩:=r.2 e;simp only[G,H,I,J]at h;simp at h
   refine⟨i+1,by show ((i+1:Nat):Int)<=tt t u;omega,by show 8-(i+1)<8-i;omega,?_⟩;all_goals refine AB _ ?_;(repeat' first|constructor|refine Iu λf=> ?_|intro h)<;>refine Lm ?_
   all_goals first|exact A5|exact j.1.symm|exact j.2.symm|exact o1.1.symm|exact o1.2.symm|exact o2.1.symm|exact o2.2.symm|(simp only[k];omega)|omega|skip
def Sg:AK
 | [.agg [.int .i64 W,.int .i64 _],.int .i64 i]=>some (1<=W/\W<=256/\0<=i/\i<=1024,.agg [.int .i64 (i/4%W),.int .i64 (i/4/W),.int .u8 (i%4)])
 |_=>none
def FCe25:Fam:=⟨Int×Int×Int,λ(W,H,i)=>[.agg [.int .i64 W,.int .i64 H],.int .i64 i],λ(W,_,i)=>1<=W/\W<=256/\0<=i/\i<=1024,λ(W,_,i)=>.agg [.int .i64 (i/4%W),.int .i64 (i/4/W),.int .u8 (i%4)]⟩
theorem Wr:PS 43 Sg:=by
 refine con [] E6 FCe25 (λ_ _=>none) Sg ?_ ?_ Tryz.func43 E5 E5 E5 ?_
 .intro args pre s h b;unfold Sg at h;split at h
  .rename_i W H i;cases h;exact⟨(W,H,i),by simp[FCe25,BN,SV.le2,SV.le1,BJ,SV.le0],b,rfl⟩
  .cases h
 .exact C3
 .rintro⟨W,H,i⟩ ⟨h1,h2,a,h4⟩;have c:i.tdiv 4=i/4:=Lw a;have d:i.tmod 4=i%4:=Km a;have e:(i/4).tdiv W=i/4/W:=Lw E4;have f:(i/4).tmod W=i/4%W:=Km E4;have a5:i/4/W<=i/4:=Int.ediv_le_self _ E4;have a6:0<=i/4/W:=Int.ediv_nonneg E4 E4;have a7:0<=i/4%W:=My _ E4;have a8:i/4%W<W:=Mr _ E4;refine X0a _ ?_;(repeat' first|constructor|intro h)<;>refine Lm ?_
  all_goals(try simp only[c,d,e,f])
  all_goals(try simp only[AD])
  all_goals(first|omega|skip)
def kE(q k:Int):Int:=if k=0 then 0 else if(q=0\/q=2)↔k=1 then 1 else 2
theorem MT{q k:Int}:0<=kE q k/\kE q k<3:=by unfold kE;repeat' split<;>omega
def JB(X Y Q k:Int):Cl:=AU ⟨X,Y,Q⟩ (kE Q k)
theorem f9z{X Y Q k:Int}(a:0<=Q/\Q<=3):JB X Y Q k=if k=0 then(if Q=0 then⟨X,Y-1,2⟩else if Q=1 then⟨X+1,Y,3⟩else if Q=2 then⟨X,Y+1,0⟩else⟨X-1,Y,1⟩)else if k=1 then⟨X,Y,(Q+1)%4⟩else⟨X,Y,(Q+3)%4⟩:=by unfold JB kE AU;rcases EW a with rfl|rfl|rfl|rfl<;>by_cases b:k=0<;>by_cases c:k=1<;>simp[b,c,EE,EJ,EL,tb]<;>omega
def d7d:AK
 | [.agg [.int .i64 X,.int .i64 Y,.int .u8 Q],.int .i64 k]=>some ((0<=Q/\Q<=3)/\(-30000<=X/\X<=30000)/\ -30000<=Y/\Y<=30000,.agg [.int .i64 (JB X Y Q k).x,.int .i64 (JB X Y Q k).y,.int .u8 (JB X Y Q k).q])
 |_=>none
def FBy25:Fam:=⟨Int×Int×Int×Int,λ(X,Y,Q,k)=>[.agg [.int .i64 X,.int .i64 Y,.int .u8 Q],.int .i64 k],λ(X,Y,Q,_)=>(0<=Q/\Q<=3)/\(-30000<=X/\X<=30000)/\ -30000<=Y/\Y<=30000,λ(X,Y,Q,k)=>.agg [.int .i64 (JB X Y Q k).x,.int .i64 (JB X Y Q k).y,.int .u8 (JB X Y Q k).q]⟩
theorem pBy25:PS 59 d7d:=by
 refine con [] E6 FBy25 (λ_ _=>none) d7d ?_ ?_ Tryz.func59 E5 E5 E5 ?_
 .intro args pre s h a;unfold d7d at h;split at h
  .rename_i X Y Q k;cases h;exact⟨(X,Y,Q,k),by simp[FBy25,BN,SV.le2,SV.le1,BJ,SV.le0],a,rfl⟩
  .cases h
 .exact C3
 .rintro⟨X,Y,Q,k⟩ a;replace a:(0<=Q/\Q<=3)/\(-30000<=X/\X<=30000)/\ -30000<=Y/\Y<=30000:=a;have b:(Q+1).tmod 4=(Q+1)%4:=Km E4;have c:(Q+3).tmod 4=(Q+3)%4:=Km E4;have e:=@f9z X Y Q k a.1;refine X0a _ ?_;(repeat' first|constructor|intro h)<;>refine Lm ?_
  all_goals(try simp only[b,c])
  all_goals(try simp only[AD])
  all_goals(try omega)
  all_goals(try simp only[Iv]at*)
  all_goals(first|(rw[e];simp[*];done)|(rw[e];repeat (first|rw[Jf E4]|rw[Jg E4]))|skip)
def BL(W H i k:Int):Int:=if AW W H i (kE (i%4) k)=0 then AH W H i (kE (i%4) k)else -1
theorem f9r{W H i k:Int}(hs:AO W H=0)(c:0<=i)(h:i<4*W*H):BL W H i k=if(JB (i/4%W) (i/4/W) (i%4) k).x<0\/(JB (i/4%W) (i/4/W) (i%4) k).y<0\/W<=(JB (i/4%W) (i/4/W) (i%4) k).x\/H<=(JB (i/4%W) (i/4/W) (i%4) k).y then -1 else 4*((JB (i/4%W) (i/4/W) (i%4) k).y*W+(JB (i/4%W) (i/4/W) (i%4) k).x)+(JB (i/4%W) (i/4/W) (i%4) k).q:=by
 have a:=@Vp W H i (kE (i%4) k) hs c h MT;rw[JL hs c h]at a;have e:AU ⟨i/4%W,i/4/W,i%4⟩ (kE (i%4) k)=JB (i/4%W) (i/4/W) (i%4) k:=rfl;rw[e]at a;unfold BL;by_cases b:AW W H i (kE (i%4) k)=0
 .have:=a.1.1 b;rw[Jf b,a.2 b,Jg E4]
 .have:¬_:=λq=>b (a.1.2 q);rw[Jg b,Jf E4]
def Tn:AK
 | [.agg [.int .i64 W,.int .i64 H],.int .i64 i,.int .i64 k]=>some (AO W H=0/\0<=i/\i<4*W*H,.int .i64 (BL W H i k))
 |_=>none
def FNb25:Fam:=⟨Int×Int×Int×Int,λ(W,H,i,k)=>[.agg [.int .i64 W,.int .i64 H],.int .i64 i,.int .i64 k],λ(W,H,i,_)=>AO W H=0/\0<=i/\i<4*W*H,λ(W,H,i,k)=>.int .i64 (BL W H i k)⟩
theorem f03:PS 41 Tn:=by
 refine con [(43,Sg),(59,d7d)] (by simpa using⟨Wr,pBy25⟩) FNb25 (λ_ _=>none) Tn ?_ ?_ Tryz.func41 E5 E5 E5 ?_
 .intro args pre s h g;unfold Tn at h;split at h
  .rename_i W H i k;cases h;exact⟨(W,H,i,k),by simp[FNb25,BN,SV.le2,SV.le1,BJ,SV.le0],g,rfl⟩
  .cases h
 .exact C5
 .rintro⟨W,H,i,k⟩ ⟨hs,a,b⟩;have hw:=Ho hs;have hN:4*W*H=4*(W*H):=M7 4 W H;have c:=JJ hs a b;rw[JL hs a b]at c;dsimp only at c;have d:=@MW ⟨i/4%W,i/4/W,i%4⟩ (kE (i%4) k) c.2.2.1 MT;have e:AU ⟨i/4%W,i/4/W,i%4⟩ (kE (i%4) k)=JB (i/4%W) (i/4/W) (i%4) k:=rfl;rw[e]at d;dsimp only at d;have f:=@f9r W H i k hs a b;have j:0<=(JB (i/4%W) (i/4/W) (i%4) k).y->0<=(JB (i/4%W) (i/4/W) (i%4) k).y*W/\(JB (i/4%W) (i/4/W) (i%4) k).y*W<=257*256:=λh=>⟨Int.mul_nonneg h E4,Int.mul_le_mul E4 E4 E4 E4⟩
  refine X0a _ ?_;(repeat' first|constructor|intro h)<;>refine Lm ?_
  all_goals(try simp only[Iv,Iy]at*)
  all_goals(first
   |exact B8
   |exact⟨E4,⟨E4,E4⟩,E4,E4⟩
   |exact A9
   |(have q:=j E4;simp only[AD];omega)
   |(rw[f,Jf E4];done)
   |(rw[f,Jg E4];done)
   |skip)
def d81:AK
 | [.agg [.int .i64 W,.int .i64 H],.int .i64 i,.int .i64 k]=>some (AO W H=0/\0<=i/\i<4*W*H,.int .i64 (kE (i%4) k))
 |_=>none
def FEd25:Fam:=⟨Int×Int×Int×Int,λ(W,H,i,k)=>[.agg [.int .i64 W,.int .i64 H],.int .i64 i,.int .i64 k],λ(W,H,i,_)=>AO W H=0/\0<=i/\i<4*W*H,λ(_,_,i,k)=>.int .i64 (kE (i%4) k)⟩
theorem pEd25:PS 80 d81:=by
 refine con [(43,Sg)] (by simpa using Wr) FEd25 (λ_ _=>none) d81 ?_ ?_ Tryz.func80 E5 E5 E5 ?_
 .intro args pre s h c;unfold d81 at h;split at h
  .rename_i W H i k;cases h;exact⟨(W,H,i,k),by simp[FEd25,BN,SV.le2,SV.le1,BJ,SV.le0],c,rfl⟩
  .cases h
 .exact C5
 .rintro⟨W,H,i,k⟩ ⟨hs,h0,h1⟩;have hw:=Ho hs;have hN:4*W*H=4*(W*H):=M7 4 W H;refine X0a _ ?_;(repeat' first|constructor|intro h)<;>refine Lm ?_
  all_goals(try simp only[Iv]at*)
  all_goals(first
   |exact B8
   |(unfold kE;simp_all;done)
   |(have a:(i%4=0\/i%4=2)↔k=1:=by
      rename_i b;have:=(M6 (α:=Bool)).1 b;rw[<-Jq (p:=k=1),<-this];simp
     unfold kE;rw[Jg E8,Jf a])
   |(have a:¬((i%4=0\/i%4=2)↔k=1):=λa=>by
      rename_i b;have e:decide (k=1)=(decide (i%4=0)||decide (i%4=2)):=by rw[<-Bool.decide_or];exact decide_eq_decide.2 a.symm
      rw[e]at b;simp at b
     unfold kE;rw[Jg E8,Jg a])
   |skip)
def DN(K C:Int):Int×Int×Int:=if K=1 then(4,2*C,0)else if K=2 then(6,0,2*C)else if K=3 then(5,C,C)else(7,-C,C)
def d6a:AK
 | [.agg [.int .u8 K,.int .i64 C]]=>some (-100000<=C/\C<=100000,.agg [.int .u8 (DN K C).1,.int .i64 (DN K C).2.1,.int .i64 (DN K C).2.2])
 |_=>none
def FMi28:Fam:=⟨Int×Int,λ(K,C)=>[.agg [.int .u8 K,.int .i64 C]],λ(_,C)=> -100000<=C/\C<=100000,λ(K,C)=>.agg [.int .u8 (DN K C).1,.int .i64 (DN K C).2.1,.int .i64 (DN K C).2.2]⟩
theorem pMi28:PS 24 d6a:=by
 refine con [] E6 FMi28 (λ_ _=>none) d6a ?_ ?_ Tryz.func24 E5 E5 E5 ?_
 .intro args pre s h a;unfold d6a at h;split at h
  .rename_i K C;cases h;exact⟨(K,C),by simp[FMi28,BN,SV.le2,SV.le1,BJ,SV.le0],a,rfl⟩
  .cases h
 .exact C4
 .rintro⟨K,C⟩ a;replace a: -100000<=C/\C<=100000:=a;refine X0a _ ?_;(repeat' first|constructor|intro h)<;>refine Lm ?_
  all_goals(try simp only[Iv]at*)
  all_goals(first
   |trivial
   |exact A9
   |exact Ar
   |(simp[DN, *];done)
   |(simp only[DN];repeat (first|rw[Jf E4]|rw[Jg E4]))
   |skip)
def GX(a b:Int×Int×Int):Int×Int:=if a.1≠b.1 then(1,max a.1 b.1)else if a.2.1≠b.2.1 then(2,max a.2.1 b.2.1)else if a.2.2+b.2.2=1\/a.2.2+b.2.2=5 then(3,a.1+a.2.1+1)else(4,a.2.1-a.1)
theorem be_m(a b:Int×Int×Int):GX a b=if(EY a b).1=4 then(1,(EY a b).2.1.tdiv 2)else if(EY a b).1=6 then(2,(EY a b).2.2.tdiv 2)else if(EY a b).1=5 then(3,(EY a b).2.1)else(4,(EY a b).2.2):=by
 unfold GX EY;have c:∀x:Int,(2*x).tdiv 2=x:=λx=>Int.mul_tdiv_cancel_left _ E4;repeat' split
 all_goals first
  |rfl
  |(simp only[c];done)
  |(simp_all;done)
theorem m25_le{a b c d e f:Int}(h:((-30000<=a/\a<=30000)/\(-30000<=b/\b<=30000)/\0<=c/\c<=3)/\(-30000<=d/\d<=30000)/\(-30000<=e/\e<=30000)/\0<=f/\f<=3):(-60001<=(EY (a,b,c) (d,e,f)).2.1/\(EY (a,b,c) (d,e,f)).2.1<=60001)/\ -60001<=(EY (a,b,c) (d,e,f)).2.2/\(EY (a,b,c) (d,e,f)).2.2<=60001:=by
 unfold EY;repeat' split
 all_goals(dsimp only at*;omega)
theorem d60{x:Int}(h: -60001<=x/\x<=60001): -60001<=x.tdiv 2/\x.tdiv 2<=60001:=by
 have h1:=Int.mul_tdiv_add_tmod x 2;have h2:=Int.tmod_lt_of_pos x (b:=2) E4;have h3: -2<x.tmod 2:=by
  rcases Int.le_total 0 x with h|h
  .have:=Int.tmod_nonneg 2 h;omega
  .have:=Int.tmod_nonneg 2 (a:= -x) E4;rw[Int.neg_tmod]at this;have c:=Int.tmod_lt_of_pos (-x) (b:=2) E4;rw[Int.neg_tmod]at c;omega
 omega
def d7s:AK
 | [.agg [.int .i64 a,.int .i64 b,.int .u8 c],.agg [.int .i64 d,.int .i64 e,.int .u8 f]]=>some (((-30000<=a/\a<=30000)/\(-30000<=b/\b<=30000)/\0<=c/\c<=3)/\(-30000<=d/\d<=30000)/\(-30000<=e/\e<=30000)/\0<=f/\f<=3,.agg [.int .u8 (GX (a,b,c) (d,e,f)).1,.int .i64 (GX (a,b,c) (d,e,f)).2])
 |_=>none
def FBe28:Fam:=⟨Int×Int×Int×Int×Int×Int,λ(a,b,c,d,e,f)=>[.agg [.int .i64 a,.int .i64 b,.int .u8 c],.agg [.int .i64 d,.int .i64 e,.int .u8 f]],λ(a,b,c,d,e,f)=>((-30000<=a/\a<=30000)/\(-30000<=b/\b<=30000)/\0<=c/\c<=3)/\(-30000<=d/\d<=30000)/\(-30000<=e/\e<=30000)/\0<=f/\f<=3,λ(a,b,c,d,e,f)=>.agg [.int .u8 (GX (a,b,c) (d,e,f)).1,.int .i64 (GX (a,b,c) (d,e,f)).2]⟩
theorem pBe28:PS 94 d7s:=by
 refine con [(42,Xv)] (by simpa using pM25) FBe28 (λ_ _=>none) d7s ?_ ?_ Tryz.func94 E5 E5 E5 ?_
 .intro args pre s h g;unfold d7s at h;split at h
  .rename_i a b c d e f;cases h;exact⟨(a,b,c,d,e,f),by simp[FBe28,BN,SV.le2,SV.le1,BJ,SV.le0],g,rfl⟩
  .cases h
 .exact C3
 .rintro⟨a,b,c,d,e,f⟩ g;replace g:((-30000<=a/\a<=30000)/\(-30000<=b/\b<=30000)/\0<=c/\c<=3)/\(-30000<=d/\d<=30000)/\(-30000<=e/\e<=30000)/\0<=f/\f<=3:=g;have k:=be_m (a,b,c) (d,e,f);have j:=m25_le g;have d1:=d60 j.1;have d2:=d60 j.2;refine X0a _ ?_;(repeat' first|constructor|intro h)<;>refine Lm ?_
  all_goals(try simp only[Iv]at*)
  all_goals(first
   |trivial
   |exact g
   |exact⟨E7,Fd⟩
   |exact A9
   |exact Ar
   |(rw[k];repeat (first|rw[Jf E8]|rw[Jg E8]))
   |skip)
def af28(a b:Int×Int×Int):Int:=if b.2.1<a.2.1\/a.2.1=b.2.1/\(b.1<a.1\/a.1=b.1/\b.2.2<a.2.2)then 1 else 0
def d9y:AK
 | [.agg [.int .i64 a,.int .i64 b,.int .u8 c],.agg [.int .i64 d,.int .i64 e,.int .u8 f]]=>some (True,.int .i64 (af28 (a,b,c) (d,e,f)))
 |_=>none
def FAf28:Fam:=⟨Int×Int×Int×Int×Int×Int,λ(a,b,c,d,e,f)=>[.agg [.int .i64 a,.int .i64 b,.int .u8 c],.agg [.int .i64 d,.int .i64 e,.int .u8 f]],λ(_,_,_,_,_,_)=>True,λ(a,b,c,d,e,f)=>.int .i64 (af28 (a,b,c) (d,e,f))⟩
theorem pAf28:PS 95 d9y:=by
 refine con [] E6 FAf28 (λ_ _=>none) d9y ?_ ?_ Tryz.func95 E5 E5 E5 ?_
 .intro args pre s h g;unfold d9y at h;split at h
  .rename_i a b c d e f;cases h;exact⟨(a,b,c,d,e,f),by simp[FAf28,BN,SV.le2,SV.le1,BJ,SV.le0],g,rfl⟩
  .cases h
 .exact C3
 .rintro⟨a,b,c,d,e,f⟩ g;replace g:True:=g;refine X0a _ ?_;(repeat' first|constructor|intro h)<;>refine Lm ?_
  all_goals(try simp only[Iv,Iy,It]at*)
  all_goals(first
   |trivial
   |exact A9
   |(unfold af28;dsimp only;first|rw[if_pos E4]|rw[if_neg E4])
   |skip)
def BE(a b:Mv):Mv:=⟨tt a.t b.t,(AL b.t a.x a.y).1+b.x,(AL b.t a.x a.y).2+b.y⟩
def AV(m:Mv)(c:Cl):Cl:=⟨(sq m.t c.x c.y).1+m.x,(sq m.t c.x c.y).2+m.y,tq m.t c.q⟩
def CM(m:Mv):Prop:=0<=m.t/\m.t<=7
def BH(c:Cl):Prop:=0<=c.q/\c.q<=3
def MN(m:Mv):Prop:=(m.x+m.y)%2=0
theorem Jl{t:Int}(h:0<=t/\t<=7):t=0\/t=1\/t=2\/t=3\/t=4\/t=5\/t=6\/t=7:=E4
theorem f8i{a b:Mv}(c:CM a)(d:CM b):CM (BE a b):=tt_le c d
theorem Pk{m:Mv}{c:Cl}(a:CM m)(b:BH c):BH (AV m c):=f1t (Jl a) b
theorem tt_as0:(r8.all λa=>r8.all λb=>r8.all λc=>decide (tt (tt a b) c=tt a (tt b c)))=true:=Ft
theorem tt_as{a b c:Int}(d:0<=a/\a<=7)(e:0<=b/\b<=7)(f:0<=c/\c<=7):tt (tt a b) c=tt a (tt b c):=by have:=Jp.1 (Jp.1 (Jp.1 tt_as0 a (Po d)) b (Po e)) c (Po f);simpa using this
theorem lin_tt{t u a b:Int}(c:0<=t/\t<=7)(d:0<=u/\u<=7):AL (tt t u) a b=AL u (AL t a b).1 (AL t a b).2:=by rcases Jl c with rfl|rfl|rfl|rfl|rfl|rfl|rfl|rfl<;>rcases Jl d with rfl|rfl|rfl|rfl|rfl|rfl|rfl|rfl<;>simp[tt,tt.tbl,tb,AL]
theorem Mv.ext'{a b:Mv}(h1:a.t=b.t)(h2:a.x=b.x)(h3:a.y=b.y):a=b:=Ib
theorem RY{a b c:Mv}(h:CM a)(e:CM b)(d:CM c):BE (BE a b) c=BE a (BE b c):=by
 have f:=@d1g c.t (AL b.t a.x a.y).1 (AL b.t a.x a.y).2 b.x b.y d;have g:=@lin_tt b.t c.t a.x a.y e d;refine Mv.ext' (tt_as h e d) ?_ ?_
 .show (AL c.t ((AL b.t a.x a.y).1+b.x) ((AL b.t a.x a.y).2+b.y)).1+c.x=(AL (tt b.t c.t) a.x a.y).1+((AL c.t b.x b.y).1+c.x);rw[f.1,g];omega
 .show (AL c.t ((AL b.t a.x a.y).1+b.x) ((AL b.t a.x a.y).2+b.y)).2+c.y=(AL (tt b.t c.t) a.x a.y).2+((AL c.t b.x b.y).2+c.y);rw[f.2,g];omega
theorem RQ{a b:Mv}{c:Cl}(d:CM a)(e:CM b)(f:BH c):AV (BE a b) c=AV b (AV a c):=by
 have:=@sq_tt a.t b.t c.x c.y a.x a.y (Jl d) (Jl e);refine Cl.ext' ?_ ?_ (tq_tt (Jl d) (Jl e) f)
 .show (sq (tt a.t b.t) c.x c.y).1+((AL b.t a.x a.y).1+b.x)=(sq b.t ((sq a.t c.x c.y).1+a.x) ((sq a.t c.x c.y).2+a.y)).1+b.x;omega
 .show (sq (tt a.t b.t) c.x c.y).2+((AL b.t a.x a.y).2+b.y)=(sq b.t ((sq a.t c.x c.y).1+a.x) ((sq a.t c.x c.y).2+a.y)).2+b.y;omega
theorem Xp{m:Mv}{c d:Cl}(h:CM m)(j:BH c)(k:BH d)(e:AV m c=AV m d):c=d:=by
 simp only[AV,Cl.mk.injEq]at e;obtain⟨g,i,f⟩:=e;have l:c.q=d.q:=by rcases Jl h with e|e|e|e|e|e|e|e<;>simp only[e,tq]at f<;>rcases EW j with a|a|a|a<;>rcases EW k with b|b|b|b<;>rw[a,b]at f⊢ <;>revert f<;>decide
 refine Cl.ext' ?_ ?_ l<;>(rcases Jl h with e|e|e|e|e|e|e|e<;>simp only[e,sq]at g i<;>simp at g i<;>omega)
def CV:Mv:=⟨0,0,0⟩
theorem Xe{a:Mv}(b:CM a):BE a CV=a/\BE CV a=a:=by obtain⟨t,x,y⟩:=a;rcases Jl b with h|h|h|h|h|h|h|h<;>(simp only at h;subst h;simp[BE,CV,tt,tt.tbl,tb,AL])
def PD(t:Int):Int:=tb [0,3,2,1,4,5,6,7] t.toNat
def ER(m:Mv):Mv:=⟨PD m.t,-(AL (PD m.t) m.x m.y).1,-(AL (PD m.t) m.x m.y).2⟩
theorem Sv{m:Mv}(h:CM m):CM (ER m):=by show 0<=PD m.t/\PD m.t<=7;unfold PD;rcases Jl h with e|e|e|e|e|e|e|e<;>rw[e]<;>decide
theorem YW{m:Mv}(h:CM m):BE m (ER m)=CV/\BE (ER m) m=CV:=by obtain⟨t,x,y⟩:=m;rcases Jl h with e|e|e|e|e|e|e|e<;>(simp only at e;subst e;simp[BE,CV,ER,PD,tt,tt.tbl,tb,AL];try omega)
theorem g0q{m:Mv}(h:CM m)(a:MN m):MN (ER m):=by obtain⟨t,x,y⟩:=m;unfold MN at*;rcases Jl h with e|e|e|e|e|e|e|e<;>(simp only at e a;subst e;simp[ER,PD,tb,AL];omega)
theorem d6p{a b:Mv}(c:MN a)(hb:MN b):MN (BE a b):=by unfold MN at*;have:=@d1w b.t a.x a.y c;show ((AL b.t a.x a.y).1+b.x+((AL b.t a.x a.y).2+b.y))%2=0;omega
def Al(K C:Int):Mv:=⟨(DN K C).1,(DN K C).2.1,(DN K C).2.2⟩
theorem c3t{K:Int}(h:1<=K/\K<=4):K=1\/K=2\/K=3\/K=4:=E4
theorem Qq(K C:Int):Al K C=⟨4,2*C,0⟩\/Al K C=⟨6,0,2*C⟩\/Al K C=⟨5,C,C⟩\/Al K C=⟨7,-C,C⟩:=by
 unfold Al DN;by_cases a:K=1
 .simp[a]
 by_cases b:K=2
 .simp[b]
 by_cases c:K=3
 .simp[c]
 .simp[a,b,c]
theorem GS{K C:Int}:CM (Al K C):=by rcases Qq K C with h|h|h|h<;>(rw[h];unfold CM;simp)
theorem g0j{K C:Int}:MN (Al K C):=by rcases Qq K C with h|h|h|h<;>(rw[h];unfold MN;dsimp only;omega)
theorem c44{K C:Int}:BE (Al K C) (Al K C)=CV:=by rcases Qq K C with h|h|h|h<;>(rw[h];simp[BE,CV,tt,tt.tbl,tb,AL]<;>omega)
theorem c0s{K C t:Int}(a:0<=t/\t<=7):(tt t (Al K C).t<4↔¬t<4)/\(tt (Al K C).t t<4↔¬t<4):=by rcases Qq K C with h|h|h|h<;>(rw[h];rcases Jl a with rfl|rfl|rfl|rfl|rfl|rfl|rfl|rfl<;>dsimp only<;>decide)
theorem Qx{K C:Int}{c:Cl}(a:BH c):AV (Al K C) (AV (Al K C) c)=c:=by rw[<-RQ GS GS a,c44];obtain⟨x,y,q⟩:=c;rcases EW a with h|h|h|h<;>(simp only at h;subst h;simp[AV,CV,sq,tq,tb])
def LU(c:Cl)(e:Int):Mv:=Al (CW c.q e) (DA c.x c.y c.q e)
def Ow(t e:Int):Int:=if e=0 then 0 else if t=0\/t=2\/t=5\/t=7 then e else 3-e
theorem Sr{t e:Int}(he:0<=e/\e<3):0<=Ow t e/\Ow t e<3:=by unfold Ow;split<;>(try split)<;>omega
theorem UL{c:Cl}{e:Int}(a:BH c)(b:0<=e/\e<3):BH (AU c e):=(MW a b).2.2
theorem cm_bey{m:Mv}{c:Cl}{e:Int}(b:CM m)(d:BH c)(f:0<=e/\e<3):AV m (AU c e)=AU (AV m c) (Ow m.t e):=by obtain⟨X,Y,Q⟩:=c;obtain⟨t,x,y⟩:=m;rcases EW d with h|h|h|h<;>rcases GZ f with rfl|rfl|rfl<;>rcases Jl b with a|a|a|a|a|a|a|a<;>(simp only at h a;subst h;subst a;simp[Ow,AV,AU,sq,tq,EE,EJ,EL,tb];try omega)
theorem b8z{c:Cl}{e:Int}(a:BH c)(b:0<=e/\e<3):AV (LU c e) c=AU c e:=by obtain⟨X,Y,Q⟩:=c;rcases EW a with h|h|h|h<;>rcases GZ b with rfl|rfl|rfl<;>(simp only at h;subst h;simp[LU,Al,DN,CW,DA,IC,JU,AV,AU,sq,tq,EE,EJ,EL,tb];try omega)
theorem d8y{c:Cl}{e:Int}(a:BH c)(b:0<=e/\e<3):AV (LU c e) (AU c e)=c:=by rw[<-b8z a b];exact Qx a
theorem d7x{m:Mv}{c:Cl}{e:Int}(b:CM m)(d:BH c)(f:0<=e/\e<3):BE (LU c e) m=BE m (LU (AV m c) (Ow m.t e)):=by obtain⟨X,Y,Q⟩:=c;obtain⟨t,x,y⟩:=m;rcases EW d with h|h|h|h<;>rcases GZ f with rfl|rfl|rfl<;>rcases Jl b with a|a|a|a|a|a|a|a<;>(simp only at h a;subst h;subst a;simp[Ow,BE,LU,Al,DN,CW,DA,IC,JU,AV,tt,tt.tbl,AL,sq,tq,tb];try omega)
def VD(K _ X Y Q:Int):Int:=tb [0,HP X Q,HU Y Q,HP X Q+HU Y Q,HU Y Q-HP X Q] K.toNat
def DF(K C:Int)(c:Cl):Int:=if VD K C c.x c.y c.q<6*C then 0 else 1
theorem Qs{K C:Int}{c:Cl}:DF K C c=0\/DF K C c=1:=by unfold DF;split<;>simp
theorem Sd{K C:Int}{c:Cl}(a:1<=K/\K<=4)(b:BH c):DF K C (AV (Al K C) c)=1-DF K C c:=by obtain⟨X,Y,Q⟩:=c;rcases c3t a with rfl|rfl|rfl|rfl<;>rcases EW b with h|h|h|h<;>(simp only at h;subst h;simp[DF,VD,Al,DN,AV,sq,tq,tb,HP,HU]<;>(repeat' split)<;>omega)
theorem sd_on{c:Cl}{e:Int}(a:BH c)(b:0<=e/\e<3):DF (CW c.q e) (DA c.x c.y c.q e) (AU c e)=1-DF (CW c.q e) (DA c.x c.y c.q e) c:=by rw[<-b8z a b];refine Sd ?_ a;obtain⟨X,Y,Q⟩:=c;rcases EW a with h|h|h|h<;>rcases GZ b with rfl|rfl|rfl<;>(simp only at h;subst h;simp[CW,IC,tb])
theorem sd_off{K C:Int}{c:Cl}{e:Int}(b:1<=K/\K<=4)(d:BH c)(f:0<=e/\e<3)(h:¬(CW c.q e=K/\DA c.x c.y c.q e=C)):DF K C (AU c e)=DF K C c:=by obtain⟨X,Y,Q⟩:=c;rcases c3t b with rfl|rfl|rfl|rfl<;>rcases EW d with a|a|a|a<;>rcases GZ f with rfl|rfl|rfl<;>(simp only at a;subst a;simp[CW,DA,IC,JU,tb]at h;simp[DF,VD,AU,EE,EJ,EL,tb,HP,HU]<;>(repeat' split)<;>omega)
def DG(c:Cl):Int×Int×Int:=(c.x,c.y,c.q)
theorem d5f{c:Cl}{e:Int}(a:BH c)(b:0<=e/\e<3):GX (DG c) (DG (AU c e))=(CW c.q e,DA c.x c.y c.q e):=by obtain⟨X,Y,Q⟩:=c;rcases EW a with h|h|h|h<;>rcases GZ b with rfl|rfl|rfl<;>(simp only at h;subst h;simp[DG,GX,CW,DA,IC,JU,AU,EE,EJ,EL,tb]<;>(first|omega|(rw[Jg E4];simp only[Prod.mk.injEq,Nx];omega)))
theorem g0t{c:Cl}{e:Int}(a:BH c)(b:0<=e/\e<3):(⟨(EY (DG c) (DG (AU c e))).1,(EY (DG c) (DG (AU c e))).2.1,(EY (DG c) (DG (AU c e))).2.2⟩:Mv)=LU c e:=by obtain⟨X,Y,Q⟩:=c;rcases EW a with h|h|h|h<;>rcases GZ b with rfl|rfl|rfl<;>(simp only at h;subst h;simp[DG,EY,LU,Al,DN,CW,DA,IC,JU,AU,EE,EJ,EL,tb]<;>(first|omega|(rw[Jg E4];simp;omega)|skip))
theorem Qt{m:Mv}{c:Cl}(h:vM m)(a:(-4200<=c.x/\c.x<=4200)/\(-4200<=c.y/\c.y<=4200)/\0<=c.q/\c.q<=3):CL m c=AV m c:=Il h a
theorem f21{m:Mv}(a:CM m)(hp:MN m)(hx: -16384<=m.x/\m.x<=16384)(hy: -16384<=m.y/\m.y<=16384):vM m:=by unfold CM MN at*;refine⟨a.1,?_⟩;unfold CB;rw[Jf E4]
theorem KD{m:Mv}(h:vM m):CM m:=by have:=FW h;unfold CM;omega
theorem d8b{a b:Mv}(d:vM a)(c:vM b)(g: -16384<=(BE a b).x/\(BE a b).x<=16384)(h: -16384<=(BE a b).y/\(BE a b).y<=16384):GI a.t a.x a.y b.t b.x b.y=0/\EH a b=BE a b:=by
 have e:=@b45 b.t a.x a.y (FW c);have i:=f70 (FW d) (FW c);have j:=f21 (f8i (KD d) (KD c)) (d6p (KR d).2.2 (KR c).2.2) g h;have f:GI a.t a.x a.y b.t b.x b.y=0:=by unfold GI;rw[Jf ⟨d.2,c.2⟩];unfold KL;rw[Jf];rw[i,e.1,e.2];exact j.2
 exact⟨f,(To d.1 c.1 f).1⟩
theorem f86{K C:Int}(b:1<=K/\K<=4)(a: -4096<=C/\C<=4096):DT K C=Al K C/\vM (Al K C):=by
 rcases c3t b with rfl|rfl|rfl|rfl
 .exact f6y a
 .exact g0h a
 .exact ref_u a
 .exact ref_d a
structure PlcG (p:Pt) (P:Int->Mv):Prop where
 ok:∀i,AR p i->CM (P i)/\MN (P i)
 cr:∀i e,AR p i->(0<=e/\e<3)->AW p.W p.H i e=0->P (AH p.W p.H i e)=if BB p i e=0 then P i else BE (LU (AJ p.W p.H i) e) (P i)
def AQ(p:Pt)(P:Int->Mv)(i:Int):Cl:=AV (P i) (AJ p.W p.H i)
def BQ(p:Pt)(P:Int->Mv)(i e:Int):Cl:=AV (P i) (AU (AJ p.W p.H i) e)
section
variable{p p':Pt}{P:Int->Mv}
theorem KH(hs:AO p.W p.H=0){i:Int}(hi:AR p i):BH (AJ p.W p.H i):=(JJ hs hi.1 hi.2).2.2.1
theorem LO(hs:AO p.W p.H=0){i e:Int}(hi:AR p i)(a:0<=e/\e<3)(b:AW p.W p.H i e=0):AR p (AH p.W p.H i e)/\AJ p.W p.H (AH p.W p.H i e)=AU (AJ p.W p.H i) e/\AW p.W p.H (AH p.W p.H i e) e=0/\AH p.W p.H (AH p.W p.H i e) e=i:=
 ⟨(GL hs hi.1 hi.2 a b).1,(GL hs hi.1 hi.2 a b).2,Qy hs hi.1 hi.2 a b⟩
theorem KQ(hs:AO p.W p.H=0)(G:PlcG p P){i:Int}(hi:AR p i):BH (AQ p P i):=Pk (G.ok i hi).1 (KH hs hi)
theorem c7s(hs:AO p.W p.H=0)(G:PlcG p P){i e:Int}(hi:AR p i)(a:0<=e/\e<3):BQ p P i e=AU (AQ p P i) (Ow (P i).t e):=cm_bey (G.ok i hi).1 (KH hs hi) a
theorem OX(hs:AO p.W p.H=0)(G:PlcG p P){i e:Int}(hi:AR p i)(a:0<=e/\e<3)(b:AW p.W p.H i e=0)(d:BB p i e=0):P (AH p.W p.H i e)=P i/\AQ p P (AH p.W p.H i e)=BQ p P i e/\BQ p P (AH p.W p.H i e) e=AQ p P i:=by
 have h:=G.cr i e hi a b;rw[Jf d]at h;obtain⟨n1,c,_⟩:=LO hs hi a b;refine⟨h,?_,?_⟩
 .unfold AQ BQ;rw[h,c]
 .unfold AQ BQ;rw[h,c,VS (KH hs hi) a]
theorem PN(hs:AO p.W p.H=0)(G:PlcG p P){i e:Int}(hi:AR p i)(b:0<=e/\e<3)(f:AW p.W p.H i e=0)(j:BB p i e≠0):AQ p P (AH p.W p.H i e)=AQ p P i/\BQ p P (AH p.W p.H i e) e=BQ p P i e/\((P (AH p.W p.H i e)).t<4↔¬(P i).t<4):=by
 have h:=G.cr i e hi b f;rw[Jg j]at h;obtain⟨n1,g,_⟩:=LO hs hi b f;have c:=KH hs hi;have d:=(G.ok i hi).1;refine⟨?_,?_,?_⟩
 .unfold AQ;rw[h,g,RQ (a:=LU (AJ p.W p.H i) e) GS d (UL c b),d8y c b]
 .unfold BQ;rw[h,g,VS c b,RQ (a:=LU (AJ p.W p.H i) e) GS d c,b8z c b]
 .rw[h];exact(c0s d).2
abbrev CS(p:Pt)(P:Int->Mv)(K C sd i:Int):Prop:=DF K C (AQ p P i)=sd
def FH(p:Pt)(P:Int->Mv)(K C sd:Int)(i:Int):Mv:=if CS p P K C sd i then BE (P i) (Al K C)else P i
abbrev KC(p:Pt)(P:Int->Mv)(K C i e:Int):Prop:=GX (DG (AQ p P i)) (DG (BQ p P i e))=(K,C)
theorem YR(hs:AO p.W p.H=0)(G:PlcG p P){K C i e:Int}(hi:AR p i)(a:0<=e/\e<3):KC p P K C i e↔CW (AQ p P i).q (Ow (P i).t e)=K/\DA (AQ p P i).x (AQ p P i).y (AQ p P i).q (Ow (P i).t e)=C:=by unfold KC;rw[c7s hs G hi a,d5f (KQ hs G hi) (Sr a)];exact Iff.of_eq (Prod.mk.injEq ..)
theorem on_mir(hs:AO p.W p.H=0)(G:PlcG p P){K C i e:Int}(hi:AR p i)(a:0<=e/\e<3)(b:KC p P K C i e):BE (LU (AJ p.W p.H i) e) (P i)=BE (P i) (Al K C):=by obtain⟨c,d⟩:=(YR hs G hi a).1 b;rw[d7x (G.ok i hi).1 (KH hs hi) a];show BE (P i) (Al (CW (AQ p P i).q _) (DA (AQ p P i).x (AQ p P i).y (AQ p P i).q _))=_;rw[c,d]
theorem on_sd(hs:AO p.W p.H=0)(G:PlcG p P){K C i e:Int}(hi:AR p i)(a:0<=e/\e<3)(d:KC p P K C i e):DF K C (BQ p P i e)=1-DF K C (AQ p P i)/\BQ p P i e=AV (Al K C) (AQ p P i):=by obtain⟨b,c⟩:=(YR hs G hi a).1 d;have:=@sd_on (AQ p P i) (Ow (P i).t e) (KQ hs G hi) (Sr a);rw[b,c]at this;rw[c7s hs G hi a];refine⟨this,?_⟩;rw[<-b8z (KQ hs G hi) (Sr a)];unfold LU;rw[b,c]
theorem f2r(hs:AO p.W p.H=0)(G:PlcG p P){K C i e:Int}(b:1<=K/\K<=4)(hi:AR p i)(a:0<=e/\e<3)(c:¬KC p P K C i e):DF K C (BQ p P i e)=DF K C (AQ p P i):=by rw[c7s hs G hi a];exact sd_off b (KQ hs G hi) (Sr a) λh=>c ((YR hs G hi a).2 h)
structure FdK (p p':Pt) (P:Int->Mv) (K C:Int) (nk:Int->Int->Int):Prop where
 W:p'.W=p.W
 H:p'.H=p.H
 kd:∀i e,AR p i->(0<=e/\e<3)->AW p.W p.H i e=0->BB p' i e=if BB p i e≠0 then BB p i e else if KC p P K C i e then nk i e else 0
 nz:∀i e,nk i e≠0
theorem f2e(hs:AO p.W p.H=0)(G:PlcG p P){K C sd:Int}(u:1<=K/\K<=4)(hsd:sd=0\/sd=1){v:Int->Int->Int}(F:FdK p p' P K C v):PlcG p' (FH p P K C sd):=by
 have o:∀i,AR p' i->AR p i:=λi h=>by unfold AR at*;rw[F.W,F.H]at h;exact h
 refine⟨λi l=> ?_,λi e l c f=> ?_⟩
 .obtain⟨q,r⟩:=G.ok i (o i l);unfold FH;split
  .exact⟨f8i q GS,d6p r g0j⟩
  .exact⟨q,r⟩
 .have b:=o i l;rw[F.W,F.H]at f⊢;have d:=F.kd i e b c f;have j:=(G.ok i b).1;by_cases k0:BB p i e=0
  .obtain⟨k,m,w⟩:=OX hs G b c f k0;rw[Jg (λh=>h k0)]at d;by_cases g:KC p P K C i e
   .rw[Jf g]at d;rw[Jg (by rw[d];exact F.nz i e)];obtain⟨n,s2⟩:=on_sd hs G b c g;have s:=on_mir hs G b c g;unfold FH CS;rw[k,m,n];have Y4:=@Qs K C (AQ p P i);by_cases t:DF K C (AQ p P i)=sd
    .rw[Jf t,Jg E4,<-RY (a:=LU (AJ p.W p.H i) e) GS j GS,s,RY j GS GS,c44,(Xe j).1]
    .rw[Jg t,Jf E4,s]
   .rw[Jg g]at d;rw[Jf d];have n:=f2r hs G u b c g;unfold FH CS;rw[k,m,n]
  .obtain⟨k,m,w⟩:=PN hs G b c f k0;rw[Jf k0]at d;rw[Jg (by rw[d];exact k0)];have h:=G.cr i e b c f;rw[Jg k0]at h;unfold FH CS;rw[k,h];split
   .exact RY GS j GS
   .rfl
theorem Vj(hs:AO p.W p.H=0)(G:PlcG p P){K C sd i:Int}(hi:AR p i)(b:p'.W=p.W)(c:p'.H=p.H):AQ p' (FH p P K C sd) i=if CS p P K C sd i then AV (Al K C) (AQ p P i)else AQ p P i:=by
 show AV (FH p P K C sd i) (AJ p'.W p'.H i)=_;rw[b,c];unfold FH;by_cases a:CS p P K C sd i
 .rw[Jf a,Jf a,RQ (G.ok i hi).1 GS (KH hs hi)];rfl
 .rw[Jg a,Jg a];rfl
theorem fd_ot(hs:AO p.W p.H=0)(G:PlcG p P){K C sd i e:Int}(hi:AR p i)(b:0<=e/\e<3)(c:p'.W=p.W)(d:p'.H=p.H):BQ p' (FH p P K C sd) i e=if CS p P K C sd i then AV (Al K C) (BQ p P i e)else BQ p P i e:=by
 show AV (FH p P K C sd i) (AU (AJ p'.W p'.H i) e)=_;rw[c,d];unfold FH;by_cases a:CS p P K C sd i
 .rw[Jf a,Jf a,RQ (G.ok i hi).1 GS (UL (KH hs hi) b)];rfl
 .rw[Jg a,Jg a];rfl
theorem fd_up(G:PlcG p P){K C sd i:Int}(hi:AR p i):((FH p P K C sd i).t<4)↔(if CS p P K C sd i then¬(P i).t<4 else(P i).t<4):=by
 unfold FH;by_cases a:CS p P K C sd i
 .rw[Jf a,Jf a];exact(c0s (G.ok i hi).1).1
 .rw[Jg a,Jg a]
end
end Go.Proofs.YtaihldljnlgnoaaGreatDoor.V
