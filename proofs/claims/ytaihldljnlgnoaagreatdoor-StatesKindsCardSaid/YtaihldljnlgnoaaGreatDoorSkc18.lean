/-
  Parts of the proof: D27 Y20 L24 L26 R3 R5. Conditions: none.
-/
import Derived.Test.YtaihldljnlgnoaaGreatDoorSkc5
import Derived.Test.YtaihldljnlgnoaaGreatDoorSkc7
import Derived.Test.YtaihldljnlgnoaaGreatDoorSkc9
import Derived.Test.YtaihldljnlgnoaaGreatDoorSkc11
import Derived.Test.YtaihldljnlgnoaaGreatDoorSkc13
import Derived.Test.YtaihldljnlgnoaaGreatDoorSkc15
import Derived.Test.YtaihldljnlgnoaaGreatDoorSkc16
import Derived.MakeChecks
set_option maxRecDepth 100000
set_option maxHeartbeats 40000000
namespace Go.Proofs.YtaihldljnlgnoaaGreatDoor.V
open Go
section
variable{W H:Int} (hs:AP W H = 0)
include hs
theorem g0p:StG ⟨W,H,[]⟩ DA (CJ W H) (λ_=>DA) 256:=d2h hs (by have:=HB hs;omega)
theorem d39:Bo ⟨W,H,[]⟩ r0=0:=((g0p hs).places Dx).1
theorem d5b:NI W H=0:=by unfold NI;rw[if_pos hs];exact d39 hs
theorem flS_eq:FG W H=CJ W H:=by
 have X:=g0p hs;have hN:=CF hs;have P:=Oy (p:=⟨W,H,[]⟩) (r:=r0) E1 (d39 hs);have zr:(CC ⟨W,H,[]⟩ r0).length=AG W H:=P.il;have kl:(FG W H).length=(CC ⟨W,H,[]⟩ r0).length:=Hp;have kl0:(CJ W H).length=AG W H:=by unfold CJ;simp
 have j:=(X.places Dx).2;apply N8
 .omega
 .intro i f k;have a:i<AG W H:=Dx;have l:(FG W H)[i]=(FG W H).getD i AA.d:=by rw[J5,J6 f];rfl
  have g0:(CJ W H).getD i AA.d=⟨AJ W H (i:Int),[(i:Int)]⟩:=by unfold CJ;simp[List.getD_eq_getElem?_getD,a]
  have b:(CJ W H)[i]=(CJ W H).getD i AA.d:=by rw[J5,J6 k];rfl
  have m:=b.trans g0;have e:AQ ⟨W,H,[]⟩ (i:Int):=⟨Dx,by show (i:Int)<4*W*H;omega⟩
  have n:(BC ⟨W,H,[]⟩ r0).getD i AE.d=DA:=j i e;have g:=(P.im i a).1;have ci:=IY hs (i:=(i:Int)) Dx e.2;have vi:=f8z (c:=AJ W H i) hs Dx Dx Dx;have vm:=P.vm i a;have o:DX ((BC ⟨W,H,[]⟩ r0).getD i AE.d) (AJ W H i)=AJ W H i:=by have hw:=HB hs;rw[Ut vm Dx,n];exact d3q (KF (p:=⟨W,H,[]⟩) hs e)
  rw[l,m,c30 f,g];show (⟨DX ((BC ⟨W,H,[]⟩ r0).getD i AE.d) (AJ W H i),[(i:Int)]⟩:Stk)=_;rw[o]
theorem flL_eq:Oi W H=CJ W H:=by have X:=g0p hs;have a:MO IV (CJ W H):=d9y X.lt;unfold Oi IM;rw[J7 (d5b hs),flS_eq hs];have e:=ov_mrg (A:=CJ W H) (B:=[]) X.cells;rw[List.append_nil]at e;have b:(oF (CJ W H) (CJ W H).length).map (·.1)=CJ W H:=e;rw[b];exact d6c _ _ (c82 (d5x X.cells)) a λx=>Qv _ _ _
theorem flP_eq:ON W H=⟨W,H,[]⟩:=by unfold ON;rw[if_pos (d5b hs)]
end
section
variable{W H:Int}
theorem oFlat{p:Pt}{L:List Stk}{z:Int}(a:NI W H=z)(b:ON W H=p)(c:Oi W H=L):PS 31 (Ua (.agg [.int .i64 W,.int .i64 H]) (.tup [.agg (Wf p r0 L),.int .i64 z])):=f4r d88 (by subst a b c;exact⟨_,rfl,Ja⟩)
end
def s25:HU:=Sd (KQ,DA,CJ 2 1) 1 1 1 true
def MW:Pt:=⟨2,1,[⟨1,0,2⟩]⟩
def JK:List Stk:=[⟨⟨0,0,0⟩,[0,4]⟩,⟨⟨0,0,1⟩,[1,7]⟩,⟨⟨0,0,2⟩,[2,6]⟩,⟨⟨0,0,3⟩,[3,5]⟩]
def t25:List Stk:=flpS JK 1 0
theorem s25_eq:s25=(MW,DA,JK):=Dy
theorem fl25:StG KQ DA (CJ 2 1) (AL KQ DA) 4000:=((d2h (W:=2) (H:=1) (B:=1) E1 Dx).pl Dx).mono Dx
theorem d1x:prOK KQ DA/\EG (CJ 2 1):=⟨by unfold prOK KQ DA;simp,fl25.stIn⟩
theorem hfd25:HS 30 (XW MW DA JK (CJ 2 1)):=by
 have a:HS 30 (XW s25.1 s25.2.1 s25.2.2 (CJ 2 1)):=f3r d5w λargs own t h b=>by
  unfold XW at h;split at h
  .cases h;obtain⟨rfl,rfl,rfl,rfl,rfl⟩:=b;obtain⟨q,e,c⟩:=b1x KQ DA (CJ 2 1);have d:UU [.agg (EO KQ DA (CJ 2 1)),.agg [.int .u8 1,.int .i64 1,.int .u8 1,.bool true]] []=some ⟨q/\fdOK KQ DA (CJ 2 1) 1 1 1,Oo (FK KQ (AL KQ DA) 1 1 true) (FD KQ (AL KQ DA) 1 1 1 0),MP (FK KQ (AL KQ DA) 1 1 true) (JW true 1 1 1 (CJ 2 1)),[]⟩:=by unfold UU;simp only[e,Option.map_some]
   exact⟨_,d,⟨c d1x.1 d1x.2,fl25,⟨E1,E1⟩,⟨E1,E1⟩,.inr rfl⟩,rfl,rfl,rfl⟩
  .cases h
 rw[s25_eq]at a;exact a
theorem hfl25:PS 28 (kFl3 (CJ 2 1)):=XZ pFl28 λargs pre s h a=>by
 unfold kFl3 at h;split at h
 .cases h;obtain⟨rfl,rfl⟩:=a;exact⟨_,rfl,E1⟩
 .cases h
theorem SF:prOK MW DA/\EG JK:=by
 refine⟨⟨⟨E1,λc a=> ?_⟩,E1,E1⟩,⟨E1,λs hs=> ?_⟩,λs hs=> ?_,E1⟩
 .obtain rfl:=Jw.1 a;exact⟨E1,E1⟩
 .simp only[JK,Ji,Nk,or_false]at hs;rcases hs with rfl|rfl|rfl|rfl<;>decide
 .simp only[JK,Ji,Nk,or_false]at hs;rcases hs with rfl|rfl|rfl|rfl<;>exact⟨E1,E1⟩
theorem in25b:EG (JK.set 1 ⟨(JK.getD 1 AA.d).c,[7,1]⟩):=by
 refine⟨⟨E1,λs hs=> ?_⟩,λs hs=> ?_,E1⟩
 .simp only[JK,List.set,Ji,Nk,or_false]at hs;rcases hs with rfl|rfl|rfl|rfl<;>decide
 .simp only[JK,List.set,Ji,Nk,or_false]at hs;rcases hs with rfl|rfl|rfl|rfl<;>exact⟨E1,E1⟩
theorem up25a:Qp MW DA JK 0=true/\LR MW DA JK 0=0:=⟨Dy,Dy⟩
theorem up25b:Qp MW DA JK 4=false/\LR MW DA JK 4=0:=⟨Dy,Dy⟩
theorem hup25:PS 15 (f0s MW DA JK true false 0):=XZ pStUp λargs pre s h a=>by
 obtain⟨q,e,b⟩:=b1x MW DA JK;unfold f0s at h;split at h
 .split at h
  .rename_i g;subst g;cases h;subst a;refine⟨q,?_,b SF.1 SF.2⟩;unfold VD;simp only[e,Kh,up25a.1,up25a.2]
  .split at h
   .rename_i g;subst g;cases h;subst a;refine⟨q,?_,b SF.1 SF.2⟩;unfold VD;simp only[e,Kh,up25b.1,up25b.2]
   .cases h
 .cases h
theorem flp25:Ox MW DA JK 1 0=0:=Dy
theorem hflp25:PS 23 (XV (.agg (EO MW DA JK)) (.agg [.int .u8 1,.int .i64 0]) (.tup [.agg (EO MW (GX DA (El 1 0)) t25),.int .i64 0])):=two_of pFlp (by obtain⟨q,e,a⟩:=b1x MW DA JK;refine⟨q,?_,a SF.1 SF.2⟩;unfold kFlp;simp only[e,Kh];unfold rFlp zP zR zL;rw[flp25,J7 rfl,J7 rfl,J7 rfl];rfl)
theorem L25ok:L25 (CJ 2 1) MW DA JK t25:=
 ⟨SF.1,SF.2,⟨rfl,rfl⟩,Dy,Dy,Dy,Dy,Dy,Dy,Dy,Dy,in25b,Dy,Dy,Dy,Dy,Dy,Dy⟩
theorem c5e:PS 10 QB:=c3f (oFlat (d5b E1) (flP_eq E1) (flL_eq E1)) (d8z hfl25 hfd25) hup25 hflp25 rfl rfl rfl L25ok
section
open Go.RowKit Go.ChangeShapes Go.WideShapes Go.ChangeAt
abbrev g1k:List (String×DataW Unit):=[("crimp/moves.turns",Rows.laid_crimp_moves_turns),("crimp/cells.quarters",Rows.laid_crimp_cells_quarters)]
theorem b3t{W:World}(h:laidMetH Tryz.prog g1k W):∀g t,QD g=some t->t.pure=true/\D W (λ_=>False) BN t (.pointer (some ⟨g,0,none⟩)):=by
 have j:∀b,¬(λ_:Nat=>False) b:=λ_ h=>h;rw[Go.MakeChecks.laidMetH_plain _ _ _ Dy]at h;obtain⟨ps,⟨g0,t0,cs0,f0,p0,q0,c,d,e,k,⟨g1,t1,cs1,f1,p1,q1,l,i,n,o,_,_⟩,_⟩,_,_⟩:=h;have r0:=b5r (A:=λ_=>False) j (sz:=4) (m:=8) (f:=QJ) c d e k (g0:=0) Dy Dy Dy Dx Dy;have q:=b5r (A:=λ_=>False) j (sz:=17) (m:=4) (f:=WR) l i n o (g0:=1) Dy Dy Dy Dx Dy;intro g t a;unfold QD at a;split at a
 .cases a;exact r0
 .cases a;exact q
 .cases a
section
variable{H:Type}{enc:TypeId × Value->H}{w:World}{base:Nat}{sp:Nat->Bool}{held:Bool}{fuel:Nat}{cs:List Value}{x:DataW H × List MemPlace}
theorem f4g{v:Value}{d:DataW H}{ps:List MemPlace}(a:Value.okWide Tryz.prog w .any base 5 v)(h:DataW.Trod enc Tryz.prog w 0 sp held 5 v d ps):∃n,AD .u8 n/\v=.int .u8 n:=by obtain⟨n,e,_,_,b⟩:=open_int Tryz.underlying5 a h;exact⟨n,b6b b,e⟩
end
section
variable{H:Type}{enc:TypeId × Value->H}{w:World}{base:Nat}{sp:Nat->Bool}{held:Bool}{fuel:Nat}{cs:List Value}{x:DataW H × List MemPlace}
theorem rd_u8s(h:DataW.trod enc Tryz.prog w base sp held fuel 77 cs=some x):∃p:Int×Int×Int,(AD .u8 p.1/\AD .u8 p.2.1/\AD .u8 p.2.2)/\cs=[.int .u8 p.1,.int .u8 p.2.1,.int .u8 p.2.2]:=by
 obtain⟨xs,m,_,_,g,ph,hx⟩:=DataW.trod_array Tryz.underlying77 h;have g:cs.length=3:=g.trans Dy;match cs,g with
 | [i,j,k],_=>
   have d:=hx 0 Dx;have e:=hx 1 Dx;have f:=hx 2 Dx;rw[J6 Dx]at d e f;replace d:DataW.trod enc Tryz.prog w base sp held m 5 [i]=some _:=d;replace e:DataW.trod enc Tryz.prog w base sp held m 5 [j]=some _:=e;replace f:DataW.trod enc Tryz.prog w base sp held m 5 [k]=some _:=f;obtain⟨a,l,n⟩:=XF Tryz.underlying5 d;obtain⟨b,o,q⟩:=XF Tryz.underlying5 e;obtain⟨c,r,s⟩:=XF Tryz.underlying5 f;cases l;cases o;cases r;exact⟨(a,b,c),⟨n,q,s⟩,rfl⟩
theorem rd_s(h:DataW.trod enc Tryz.prog w base sp held fuel 24 cs=some x):∃(q:Int×Int×List (Int×Int×Int)) (v:Value),MI q.1 q.2.1 q.2.2/\cs=[.int .u8 q.1,.int .u8 q.2.1,v]/\D w (λ_=>False) BN (.sl 3 q.2.2.length (DQ.row q.2.2) none) v:=by
 obtain⟨e,n⟩:=d5u Tryz.underlying24 h;have e:cs.length=3:=e.trans Dy;match cs,e with
 | [u,z,o],_=>
   simp only[Ji,forall_eq_or_imp,Nk,false_implies,implies_true,and_true]at n;obtain⟨⟨B,C,f⟩,⟨E,F,g⟩,⟨G,H,i⟩⟩:=n;replace f:DataW.trod enc Tryz.prog w base sp held B 5 [u]=some C:=f;replace g:DataW.trod enc Tryz.prog w base sp held E 5 [z]=some F:=g;replace i:DataW.trod enc Tryz.prog w base sp held G 22 [o]=some H:=i;obtain⟨a,I,r⟩:=XF Tryz.underlying5 f;obtain⟨b,J,t⟩:=XF Tryz.underlying5 g;cases I;cases J;obtain⟨l,v,K,_,L,M⟩:=rd_sl DQ.d DQ.sv (λq=>AD .u8 q.1/\AD .u8 q.2.1/\AD .u8 q.2.2) Tryz.underlying22 (sz:=3) Dy Dx (A:=λ_=>False) (λ_ h=>h) (λm R y N=>by
    obtain⟨q,k,rfl⟩:=rd_u8s N;refine⟨q,k,rfl,rfl,λv c=> ?_,λj s v hs c=> ?_⟩
    .simp at c;rcases c with rfl|rfl|rfl<;>rfl
    .match j,hs,c with
     |0,hs,c=>simp[DQ]at hs c;subst hs c;exact .int
     |1,hs,c=>simp[DQ]at hs c;subst hs c;exact .int
     |2,hs,c=>simp[DQ]at hs c;subst hs c;exact .int) i
   cases K;simp only[AD]at r t;refine⟨(a,b,l),o,⟨r,t,λq k=> ?_⟩,rfl,L⟩;have:=M q k;simp only[AD]at this;unfold MQ;omega
theorem arg_s{v:Value}{d:DataW H}{ps:List MemPlace}(b:Value.okWide Tryz.prog w .any base 24 v)(h:DataW.Trod enc Tryz.prog w 0 sp held 24 v d ps):∃q:Int×Int×List (Int×Int×Int),MI q.1 q.2.1 q.2.2/\D w (λ_=>False) BN (.agg (GE q.1 q.2.1 q.2.2)) v:=by
 obtain⟨fuel,h⟩:=h;obtain⟨q,u,c,f,g⟩:=rd_s h;unfold Value.okWide at b;rw[Tryz.underlying24]at b;obtain⟨j,rfl,_,_⟩:=b;refine⟨q,c,?_⟩;have e:j=[.int .u8 q.1,.int .u8 q.2.1,u].toArray:=by apply Array.ext';exact f
 rw[e];refine .agg _ rfl (λi s v hs a=> ?_);match i,hs,a with
 |0,hs,a=>simp[GE]at hs a;subst hs a;exact .int
 |1,hs,a=>simp[GE]at hs a;subst hs a;exact .int
 |2,hs,a=>simp[GE]at hs a;subst hs a;exact g
end
end
end Go.Proofs.YtaihldljnlgnoaaGreatDoor.V
