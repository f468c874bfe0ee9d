/-
  Parts of the proof: D27 L24 L26 R3 R7 R5. Conditions: none.
-/
import Derived.Test.YtaihldljnlgnoaaGreatDoorSmc5
import Derived.Test.YtaihldljnlgnoaaGreatDoorSmc7
import Derived.Test.YtaihldljnlgnoaaGreatDoorSmc13
import Derived.Test.YtaihldljnlgnoaaGreatDoorSmc15
import Derived.Test.YtaihldljnlgnoaaGreatDoorSmc17
import Derived.Test.YtaihldljnlgnoaaGreatDoorSmc18
import Derived.MakeChecks
set_option maxRecDepth 100000
set_option maxHeartbeats 40000000
namespace Go.Proofs.YtaihldljnlgnoaaGreatDoor.V
open Go
section
variable{W H:Int} (hs:AO W H = 0)
include hs
theorem g0k:StG ⟨W,H,[]⟩ CV (CC W H) (λ_=>CV) 256:=d2b hs (by have:=Ho hs;omega)
theorem d31:CF ⟨W,H,[]⟩ r0=0:=((g0k hs).places E4).1
theorem d4y:NH W H=0:=by unfold NH;rw[if_pos hs];exact d31 hs
theorem flS_eq:FL W H=CC W H:=by
 have X:=g0k hs;have hN:=CQ hs;have P:=Rt (p:=⟨W,H,[]⟩) (r:=r0) E7 (d31 hs);have js:(CA ⟨W,H,[]⟩ r0).length=AF W H:=P.il;have kl:(FL W H).length=(CA ⟨W,H,[]⟩ r0).length:=Hy;have kl0:(CC W H).length=AF W H:=by unfold CC;simp
 have j:=(X.places E4).2;apply Np
 .omega
 .intro i f k;have a:i<AF W H:=E4;have l:(FL W H)[i]=(FL W H).getD i AA.d:=by rw[Jd,Je f];rfl
  have g0:(CC W H).getD i AA.d=⟨AJ W H (i:Int),[(i:Int)]⟩:=by unfold CC;simp[List.getD_eq_getElem?_getD,a]
  have b:(CC W H)[i]=(CC W H).getD i AA.d:=by rw[Jd,Je k];rfl
  have m:=b.trans g0;have e:AR ⟨W,H,[]⟩ (i:Int):=⟨E4,by show (i:Int)<4*W*H;omega⟩
  have n:(BR ⟨W,H,[]⟩ r0).getD i AE.d=CV:=j i e;have g:=(P.im i a).1;have ci:=JJ hs (i:=(i:Int)) E4 e.2;have vi:=f8p (c:=AJ W H i) hs E4 E4 E4;have vm:=P.vm i a;have o:CL ((BR ⟨W,H,[]⟩ r0).getD i AE.d) (AJ W H i)=AJ W H i:=by have hw:=Ho hs;rw[Qt vm E4,n];exact c6z (KH (p:=⟨W,H,[]⟩) hs e)
  rw[l,m,c30 f,g];show (⟨CL ((BR ⟨W,H,[]⟩ r0).getD i AE.d) (AJ W H i),[(i:Int)]⟩:Stk)=_;rw[o]
theorem flL_eq:Oo W H=CC W H:=by have X:=g0k hs;have a:JC JT (CC W H):=f8a X.lt;unfold Oo IV;rw[Jf (d4y hs),flS_eq hs];have e:=ov_mrg (A:=CC W H) (B:=[]) X.cells;rw[List.append_nil]at e;have b:(oF (CC W H) (CC W H).length).map (·.1)=CC W H:=e;rw[b];exact c4y _ _ (f0e (d5g X.cells)) a λx=>SJ _ _ _
theorem flP_eq:OT W H=⟨W,H,[]⟩:=by unfold OT;rw[if_pos (d4y hs)]
end
section
variable{W H:Int}
theorem oFlat{p:Pt}{L:List Stk}{z:Int}(a:NH W H=z)(b:OT W H=p)(c:Oo W H=L):PS 31 (Sn (.agg [.int .i64 W,.int .i64 H]) (.tup [.agg (Wc p r0 L),.int .i64 z])):=f4j d7y (by subst a b c;exact⟨_,rfl,Ji⟩)
end
def s25:II:=UV (KW,CV,CC 2 1) 1 1 1 true
def MV:Pt:=⟨2,1,[⟨1,0,2⟩]⟩
def JM:List Stk:=[⟨⟨0,0,0⟩,[0,4]⟩,⟨⟨0,0,1⟩,[1,7]⟩,⟨⟨0,0,2⟩,[2,6]⟩,⟨⟨0,0,3⟩,[3,5]⟩]
def t25:List Stk:=NE JM 1 0
theorem s25_eq:s25=(MV,CV,JM):=E5
theorem fl25:StG KW CV (CC 2 1) (AM KW CV) 4000:=((d2b (W:=2) (H:=1) (B:=1) E7 E4).pl E4).mono E4
theorem d1q:prOK KW CV/\EV (CC 2 1):=⟨by unfold prOK KW CV;simp,fl25.stIn⟩
theorem hfd25:HS 30 (XV MV CV JM (CC 2 1)):=by
 have a:HS 30 (XV s25.1 s25.2.1 s25.2.2 (CC 2 1)):=hs_sub f4i λargs own t h b=>by
  unfold XV at h;split at h
  .cases h;obtain⟨rfl,rfl,rfl,rfl,rfl⟩:=b;obtain⟨q,e,c⟩:=OJ KW CV (CC 2 1);have d:WU [.agg (BD KW CV (CC 2 1)),.agg [.int .u8 1,.int .i64 1,.int .u8 1,.bool true]] []=some ⟨q/\fdOK KW CV (CC 2 1) 1 1 1,WT (FR KW (AM KW CV) 1 1 true) (FH KW (AM KW CV) 1 1 1 0),Ur (FR KW (AM KW CV) 1 1 true) (JV true 1 1 1 (CC 2 1)),[]⟩:=by unfold WU;simp only[e,Option.map_some]
   exact⟨_,d,⟨c d1q.1 d1q.2,fl25,⟨E7,E7⟩,⟨E7,E7⟩,.inr rfl⟩,rfl,rfl,rfl⟩
  .cases h
 rw[s25_eq]at a;exact a
theorem hfl25:PS 28 (kFl3 (CC 2 1)):=XY pFl28 λargs pre s h a=>by
 unfold kFl3 at h;split at h
 .cases h;obtain⟨rfl,rfl⟩:=a;exact⟨_,rfl,E7⟩
 .cases h
theorem SO:prOK MV CV/\EV JM:=by
 refine⟨⟨⟨E7,λc a=> ?_⟩,E7,E7⟩,⟨E7,λs hs=> ?_⟩,λs hs=> ?_,E7⟩
 .obtain rfl:=K4.1 a;exact⟨E7,E7⟩
 .simp only[JM,Ja,or_false]at hs;rcases hs with rfl|rfl|rfl|rfl<;>decide
 .simp only[JM,Ja,or_false]at hs;rcases hs with rfl|rfl|rfl|rfl<;>exact⟨E7,E7⟩
theorem in25b:EV (JM.set 1 ⟨(JM.getD 1 AA.d).c,[7,1]⟩):=by
 refine⟨⟨E7,λs hs=> ?_⟩,λs hs=> ?_,E7⟩
 .simp only[JM,List.set,Ja,or_false]at hs;rcases hs with rfl|rfl|rfl|rfl<;>decide
 .simp only[JM,List.set,Ja,or_false]at hs;rcases hs with rfl|rfl|rfl|rfl<;>exact⟨E7,E7⟩
theorem up25a:TM MV CV JM 0=true/\QY MV CV JM 0=0:=⟨E5,E5⟩
theorem up25b:TM MV CV JM 4=false/\QY MV CV JM 4=0:=⟨E5,E5⟩
theorem hup25:PS 15 (f0f MV CV JM true false 0):=XY pStUp λargs pre s h a=>by
 obtain⟨q,e,b⟩:=OJ MV CV JM;unfold f0f at h;split at h
 .split at h
  .rename_i g;subst g;cases h;subst a;refine⟨q,?_,b SO.1 SO.2⟩;unfold XK;simp only[e,Kn,up25a.1,up25a.2]
  .split at h
   .rename_i g;subst g;cases h;subst a;refine⟨q,?_,b SO.1 SO.2⟩;unfold XK;simp only[e,Kn,up25b.1,up25b.2]
   .cases h
 .cases h
theorem flp25:Eo MV CV JM 1 0=0:=E5
theorem hflp25:PS 23 (Ry (.agg (BD MV CV JM)) (.agg [.int .u8 1,.int .i64 0]) (.tup [.agg (BD MV (EH CV (DT 1 0)) t25),.int .i64 0])):=f3w pFlp (by obtain⟨q,e,a⟩:=OJ MV CV JM;refine⟨q,?_,a SO.1 SO.2⟩;unfold kFlp;simp only[e,Kn];unfold Ta zP zR zL;rw[flp25,Jf rfl,Jf rfl,Jf rfl];rfl)
theorem L25ok:L25 (CC 2 1) MV CV JM t25:=
 ⟨SO.1,SO.2,⟨rfl,rfl⟩,E5,E5,E5,E5,E5,E5,E5,E5,in25b,E5,E5,E5,E5,E5,E5⟩
theorem c5e:PS 10 QK:=c3f (oFlat (d4y E7) (flP_eq E7) (flL_eq E7)) (d8n hfl25 hfd25) hup25 hflp25 rfl rfl rfl L25ok
section
open Go.RowKit Go.ChangeShapes Go.WideShapes Go.ChangeAt
abbrev g1p:List (String×DataW Unit):=[("crimp/moves.turns",Rows.laid_crimp_moves_turns),("crimp/cells.quarters",Rows.laid_crimp_cells_quarters)]
theorem b3t{W:World}(h:laidMetH Tryz.prog g1p W):∀g t,QM g=some t->t.pure=true/\D W (λ_=>False) BK t (.pointer (some ⟨g,0,none⟩)):=by
 have i:∀b,¬(λ_:Nat=>False) b:=λ_ h=>h;rw[Go.MakeChecks.laidMetH_plain _ _ _ E5]at h;obtain⟨ps,⟨g0,t0,cs0,f0,p0,q0,c,j,d,k,⟨g1,t1,cs1,f1,p1,q1,l,e,n,o,_,_⟩,_⟩,_,_⟩:=h;have r0:=b5n (A:=λ_=>False) i (sz:=4) (m:=8) (f:=QS) c j d k (g0:=0) E5 E5 E5 E4 E5;have q:=b5n (A:=λ_=>False) i (sz:=17) (m:=4) (f:=WN) l e n o (g0:=1) E5 E5 E5 E4 E5;intro g t a;unfold QM at a;split at a
 .cases a;exact r0
 .cases a;exact q
 .cases a
section
variable{H:Type}{enc:TypeId × Value->H}{w:World}{base:Nat}{sp:Nat->Bool}{held:Bool}{fuel:Nat}{cs:List Value}{x:DataW H × List MemPlace}
end
section
variable{H:Type}{enc:TypeId × Value->H}{w:World}{base:Nat}{sp:Nat->Bool}{held:Bool}{fuel:Nat}{cs:List Value}{x:DataW H × List MemPlace}
theorem rd_mv(h:DataW.trod enc Tryz.prog w base sp held fuel 31 cs=some x):∃p:Int×Int×Int,(AD .u8 p.1/\AD .i64 p.2.1/\AD .i64 p.2.2)/\cs=[.int .u8 p.1,.int .i64 p.2.1,.int .i64 p.2.2]:=by
 obtain⟨d,i⟩:=b6b Tryz.underlying31 h;have d:cs.length=3:=d.trans E5;match cs,d with
 | [j,k,l],_=>
   simp only[Ja,forall_eq_or_imp,false_implies,implies_true,and_true]at i;obtain⟨⟨m,n,e⟩,⟨o,q,f⟩,⟨r,s,g⟩⟩:=i;replace e:DataW.trod enc Tryz.prog w base sp held m 5 [j]=some n:=e;replace f:DataW.trod enc Tryz.prog w base sp held o 3 [k]=some q:=f;replace g:DataW.trod enc Tryz.prog w base sp held r 3 [l]=some s:=g;obtain⟨a,t,u⟩:=Pr Tryz.underlying5 e;obtain⟨b,v,y⟩:=Pr Tryz.underlying3 f;obtain⟨c,z,A⟩:=Pr Tryz.underlying3 g;cases t;cases v;cases z;exact⟨(a,b,c),⟨u,y,A⟩,rfl⟩
theorem arg_mv{v:Value}{d:DataW H}{ps:List MemPlace}(b:Value.okWide Tryz.prog w .any base 31 v)(h:DataW.Trod enc Tryz.prog w 0 sp held 31 v d ps):∃p:Int×Int×Int,(AD .u8 p.1/\AD .i64 p.2.1/\AD .i64 p.2.2)/\D w (λ_=>False) BK (.agg [.int .u8 p.1,.int .i64 p.2.1,.int .i64 p.2.2]) v:=by
 obtain⟨fuel,h⟩:=h;obtain⟨p,c,f⟩:=rd_mv h;unfold Value.okWide at b;rw[Tryz.underlying31]at b;obtain⟨g,rfl,_,_⟩:=b;refine⟨p,c,?_⟩;have e:g=[.int .u8 p.1,.int .i64 p.2.1,.int .i64 p.2.2].toArray:=by apply Array.ext';exact f
 rw[e];refine .agg _ rfl (λi s v hs a=> ?_);match i,hs,a with
 |0,hs,a=>simp at hs a;subst hs a;exact .int
 |1,hs,a=>simp at hs a;subst hs a;exact .int
 |2,hs,a=>simp at hs a;subst hs a;exact .int
theorem f8h(h:DataW.trod enc Tryz.prog w base sp held fuel 71 cs=some x):∃p:Int×Int,(AD .u8 p.1/\AD .i64 p.2)/\cs=[.int .u8 p.1,.int .i64 p.2]:=by
 obtain⟨c,f⟩:=b6b Tryz.underlying71 h;have c:cs.length=2:=c.trans E5;match cs,c with
 | [g,i],_=>
   simp only[Ja,forall_eq_or_imp,false_implies,implies_true,and_true]at f;obtain⟨⟨j,k,d⟩,⟨l,m,e⟩⟩:=f;replace d:DataW.trod enc Tryz.prog w base sp held j 69 [g]=some k:=d;replace e:DataW.trod enc Tryz.prog w base sp held l 3 [i]=some m:=e;obtain⟨a,n,o⟩:=Pr Tryz.underlying69 d;obtain⟨b,q,r⟩:=Pr Tryz.underlying3 e;cases n;cases q;exact⟨(a,b),⟨o,r⟩,rfl⟩
theorem f0d{v:Value}{d:DataW H}{ps:List MemPlace}(b:Value.okWide Tryz.prog w .any base 71 v)(h:DataW.Trod enc Tryz.prog w 0 sp held 71 v d ps):∃p:Int×Int,(AD .u8 p.1/\AD .i64 p.2)/\D w (λ_=>False) BK (.agg [.int .u8 p.1,.int .i64 p.2]) v:=by
 obtain⟨fuel,h⟩:=h;obtain⟨p,c,f⟩:=f8h h;unfold Value.okWide at b;rw[Tryz.underlying71]at b;obtain⟨g,rfl,_,_⟩:=b;refine⟨p,c,?_⟩;have e:g=[.int .u8 p.1,.int .i64 p.2].toArray:=by apply Array.ext';exact f
 rw[e];refine .agg _ rfl (λi s v hs a=> ?_);match i,hs,a with
 |0,hs,a=>simp at hs a;subst hs a;exact .int
 |1,hs,a=>simp at hs a;subst hs a;exact .int
end
section
variable{H:Type}{enc:TypeId × Value->H}{w:World}{base:Nat}{sp:Nat->Bool}{held:Bool}{fuel:Nat}{cs:List Value}{x:DataW H × List MemPlace}
theorem rd_u8s(h:DataW.trod enc Tryz.prog w base sp held fuel 77 cs=some x):∃p:Int×Int×Int,(AD .u8 p.1/\AD .u8 p.2.1/\AD .u8 p.2.2)/\cs=[.int .u8 p.1,.int .u8 p.2.1,.int .u8 p.2.2]:=by
 obtain⟨xs,m,_,_,g,pb,hx⟩:=DataW.trod_array Tryz.underlying77 h;have g:cs.length=3:=g.trans E5;match cs,g with
 | [i,j,k],_=>
   have d:=hx 0 E4;have e:=hx 1 E4;have f:=hx 2 E4;rw[Je E4]at d e f;replace d:DataW.trod enc Tryz.prog w base sp held m 5 [i]=some _:=d;replace e:DataW.trod enc Tryz.prog w base sp held m 5 [j]=some _:=e;replace f:DataW.trod enc Tryz.prog w base sp held m 5 [k]=some _:=f;obtain⟨a,l,n⟩:=Pr Tryz.underlying5 d;obtain⟨b,o,q⟩:=Pr Tryz.underlying5 e;obtain⟨c,r,s⟩:=Pr Tryz.underlying5 f;cases l;cases o;cases r;exact⟨(a,b,c),⟨n,q,s⟩,rfl⟩
theorem rd_s(h:DataW.trod enc Tryz.prog w base sp held fuel 24 cs=some x):∃(q:Int×Int×List (Int×Int×Int)) (v:Value),OD q.1 q.2.1 q.2.2/\cs=[.int .u8 q.1,.int .u8 q.2.1,v]/\D w (λ_=>False) BK (.sl 3 q.2.2.length (FS.row q.2.2) none) v:=by
 obtain⟨e,n⟩:=b6b Tryz.underlying24 h;have e:cs.length=3:=e.trans E5;match cs,e with
 | [u,z,o],_=>
   simp only[Ja,forall_eq_or_imp,false_implies,implies_true,and_true]at n;obtain⟨⟨B,C,f⟩,⟨E,F,g⟩,⟨G,H,i⟩⟩:=n;replace f:DataW.trod enc Tryz.prog w base sp held B 5 [u]=some C:=f;replace g:DataW.trod enc Tryz.prog w base sp held E 5 [z]=some F:=g;replace i:DataW.trod enc Tryz.prog w base sp held G 22 [o]=some H:=i;obtain⟨a,I,r⟩:=Pr Tryz.underlying5 f;obtain⟨b,J,t⟩:=Pr Tryz.underlying5 g;cases I;cases J;obtain⟨l,v,K,_,L,M⟩:=rd_sl FS.d FS.sv (λq=>AD .u8 q.1/\AD .u8 q.2.1/\AD .u8 q.2.2) Tryz.underlying22 (sz:=3) E5 E4 (A:=λ_=>False) (λ_ h=>h) (λm R y N=>by
    obtain⟨q,k,rfl⟩:=rd_u8s N;refine⟨q,k,rfl,rfl,λv c=> ?_,λj s v hs c=> ?_⟩
    .simp at c;rcases c with rfl|rfl|rfl<;>rfl
    .match j,hs,c with
     |0,hs,c=>simp[FS]at hs c;subst hs c;exact .int
     |1,hs,c=>simp[FS]at hs c;subst hs c;exact .int
     |2,hs,c=>simp[FS]at hs c;subst hs c;exact .int) i
   cases K;simp only[AD]at r t;refine⟨(a,b,l),o,⟨r,t,λq k=> ?_⟩,rfl,L⟩;have:=M q k;simp only[AD]at this;unfold Pu;omega
theorem arg_s{v:Value}{d:DataW H}{ps:List MemPlace}(b:Value.okWide Tryz.prog w .any base 24 v)(h:DataW.Trod enc Tryz.prog w 0 sp held 24 v d ps):∃q:Int×Int×List (Int×Int×Int),OD q.1 q.2.1 q.2.2/\D w (λ_=>False) BK (.agg (HE q.1 q.2.1 q.2.2)) v:=by
 obtain⟨fuel,h⟩:=h;obtain⟨q,u,c,f,g⟩:=rd_s h;unfold Value.okWide at b;rw[Tryz.underlying24]at b;obtain⟨j,rfl,_,_⟩:=b;refine⟨q,c,?_⟩;have e:j=[.int .u8 q.1,.int .u8 q.2.1,u].toArray:=by apply Array.ext';exact f
 rw[e];refine .agg _ rfl (λi s v hs a=> ?_);match i,hs,a with
 |0,hs,a=>simp[HE]at hs a;subst hs a;exact .int
 |1,hs,a=>simp[HE]at hs a;subst hs a;exact .int
 |2,hs,a=>simp[HE]at hs a;subst hs a;exact g
theorem d90{v:Value}{d:DataW H}{ps:List MemPlace}(a:Value.okWide Tryz.prog w .any base 4 v)(h:DataW.Trod enc Tryz.prog w 0 sp held 4 v d ps):∃b:Bool,True/\D w (λ_=>False) BK (.bool b) v:=by
 unfold Value.okWide at a;rw[Tryz.underlying4]at a;cases v<;>try exact a.elim
 exact⟨_,Ji,.bool⟩
end
end
end Go.Proofs.YtaihldljnlgnoaaGreatDoor.V
