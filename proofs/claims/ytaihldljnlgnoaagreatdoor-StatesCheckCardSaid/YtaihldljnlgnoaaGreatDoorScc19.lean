/-
  Parts of the proof: D27 Y20 L24 L26 R3 R5 R8. Conditions: none.
-/
import Derived.Test.YtaihldljnlgnoaaGreatDoorScc5
import Derived.Test.YtaihldljnlgnoaaGreatDoorScc7
import Derived.Test.YtaihldljnlgnoaaGreatDoorScc9
import Derived.Test.YtaihldljnlgnoaaGreatDoorScc11
import Derived.Test.YtaihldljnlgnoaaGreatDoorScc13
import Derived.Test.YtaihldljnlgnoaaGreatDoorScc15
import Derived.Test.YtaihldljnlgnoaaGreatDoorScc16
import Derived.MakeChecks
set_option maxRecDepth 100000
set_option maxHeartbeats 40000000
namespace Go.Proofs.YtaihldljnlgnoaaGreatDoor.V
open Go
section
variable{W H:Int} (hs:AV W H = 0)
include hs
theorem g0w:StG ⟨W,H,[]⟩ DA (CI W H) (λ_=>DA) 256:=d2n hs (by have:=GW hs;omega)
theorem d3e:CH ⟨W,H,[]⟩ r0=0:=((g0w hs).places Dv).1
theorem d5e:NS W H=0:=by unfold NS;rw[if_pos hs];exact d3e hs
theorem flS_eq:FG W H=CI W H:=by
 have X:=g0w hs;have hN:=CR hs;have P:=PJ (p:=⟨W,H,[]⟩) (r:=r0) Dy (d3e hs);have dz:(CF ⟨W,H,[]⟩ r0).length=AJ W H:=P.il;have kl:(FG W H).length=(CF ⟨W,H,[]⟩ r0).length:=Hk;have kl0:(CI W H).length=AJ W H:=by unfold CI;simp
 have j:=(X.places Dv).2;apply Ms
 .omega
 .intro i f k;have a:i<AJ W H:=Dv;have l:(FG W H)[i]=(FG W H).getD i AA.d:=by rw[Ix,Iy f];rfl
  have g0:(CI W H).getD i AA.d=⟨AL W H (i:Int),[(i:Int)]⟩:=by unfold CI;simp[List.getD_eq_getElem?_getD,a]
  have b:(CI W H)[i]=(CI W H).getD i AA.d:=by rw[Ix,Iy k];rfl
  have m:=b.trans g0;have e:AU ⟨W,H,[]⟩ (i:Int):=⟨Dv,by show (i:Int)<4*W*H;omega⟩
  have n:(BL ⟨W,H,[]⟩ r0).getD i AH.d=DA:=j i e;have g:=(P.im i a).1;have ci:=IA hs (i:=(i:Int)) Dv e.2;have vi:=f90 (c:=AL W H i) hs Dv Dv Dv;have vm:=P.vm i a;have o:Dl ((BL ⟨W,H,[]⟩ r0).getD i AH.d) (AL W H i)=AL W H i:=by have hw:=GW hs;rw[Xb vm Dv,n];exact f42 (ML (p:=⟨W,H,[]⟩) hs e)
  rw[l,m,c3b f,g];show (⟨Dl ((BL ⟨W,H,[]⟩ r0).getD i AH.d) (AL W H i),[(i:Int)]⟩:Stk)=_;rw[o]
theorem flL_eq:Ok W H=CI W H:=by have X:=g0w hs;have a:TB RL (CI W H):=pw_of X.lt;unfold Ok Il;rw[Iz (d5e hs),flS_eq hs];have e:=ov_mrg (A:=CI W H) (B:=[]) X.cells;rw[List.append_nil]at e;have b:(oF (CI W H) (CI W H).length).map (·.1)=CI W H:=e;rw[b];exact d6g _ _ (f0s (g0i X.cells)) a λx=>QJ _ _ _
theorem flP_eq:OQ W H=⟨W,H,[]⟩:=by unfold OQ;rw[if_pos (d5e hs)]
end
section
variable{W H:Int}
theorem oFlat{p:Pt}{L:List Stk}{z:Int}(a:NS W H=z)(b:OQ W H=p)(c:Ok W H=L):PS 31 (Uo (.agg [.int .i64 W,.int .i64 H]) (.tup [.agg (Wz p r0 L),.int .i64 z])):=f4z d8d (by subst a b c;exact⟨_,rfl,J5⟩)
end
def s25:JF:=Ui (KY,DA,CI 2 1) 1 1 1 true
def NE:Pt:=⟨2,1,[⟨1,0,2⟩]⟩
def JR:List Stk:=[⟨⟨0,0,0⟩,[0,4]⟩,⟨⟨0,0,1⟩,[1,7]⟩,⟨⟨0,0,2⟩,[2,6]⟩,⟨⟨0,0,3⟩,[3,5]⟩]
def t25:List Stk:=flpS JR 1 0
theorem s25_eq:s25=(NE,DA,JR):=Dw
theorem fl25:StG KY DA (CI 2 1) (AD KY DA) 4000:=((d2n (W:=2) (H:=1) (B:=1) Dy Dv).pl Dv).mono Dv
theorem d21:prOK KY DA/\FK (CI 2 1):=⟨by unfold prOK KY DA;simp,fl25.stIn⟩
theorem hfd25:HS 30 (Xs NE DA JR (CI 2 1)):=by
 have a:HS 30 (Xs s25.1 s25.2.1 s25.2.2 (CI 2 1)):=f3x f4y λargs own t h b=>by
  unfold Xs at h;split at h
  .cases h;obtain⟨rfl,rfl,rfl,rfl,rfl⟩:=b;obtain⟨q,e,c⟩:=b20 KY DA (CI 2 1);have d:Wq [.agg (Fo KY DA (CI 2 1)),.agg [.int .u8 1,.int .i64 1,.int .u8 1,.bool true]] []=some ⟨q/\fdOK KY DA (CI 2 1) 1 1 1,Oq (FV KY (AD KY DA) 1 1 true) (FH KY (AD KY DA) 1 1 1 0),Mo (FV KY (AD KY DA) 1 1 true) (KU true 1 1 1 (CI 2 1)),[]⟩:=by unfold Wq;simp only[e,Option.map_some]
   exact⟨_,d,⟨c d21.1 d21.2,fl25,⟨Dy,Dy⟩,⟨Dy,Dy⟩,.inr rfl⟩,rfl,rfl,rfl⟩
  .cases h
 rw[s25_eq]at a;exact a
theorem hfl25:PS 28 (kFl3 (CI 2 1)):=c6z pFl28 λargs pre s h a=>by
 unfold kFl3 at h;split at h
 .cases h;obtain⟨rfl,rfl⟩:=a;exact⟨_,rfl,Dy⟩
 .cases h
theorem SR:prOK NE DA/\FK JR:=by
 refine⟨⟨⟨Dy,λc a=> ?_⟩,Dy,Dy⟩,⟨Dy,λs hs=> ?_⟩,λs hs=> ?_,Dy⟩
 .obtain rfl:=Js.1 a;exact⟨Dy,Dy⟩
 .simp only[JR,Jd,Na,or_false]at hs;rcases hs with rfl|rfl|rfl|rfl<;>decide
 .simp only[JR,Jd,Na,or_false]at hs;rcases hs with rfl|rfl|rfl|rfl<;>exact⟨Dy,Dy⟩
theorem in25b:FK (JR.set 1 ⟨(JR.getD 1 AA.d).c,[7,1]⟩):=by
 refine⟨⟨Dy,λs hs=> ?_⟩,λs hs=> ?_,Dy⟩
 .simp only[JR,List.set,Jd,Na,or_false]at hs;rcases hs with rfl|rfl|rfl|rfl<;>decide
 .simp only[JR,List.set,Jd,Na,or_false]at hs;rcases hs with rfl|rfl|rfl|rfl<;>exact⟨Dy,Dy⟩
theorem up25a:TX NE DA JR 0=true/\QZ NE DA JR 0=0:=⟨Dw,Dw⟩
theorem up25b:TX NE DA JR 4=false/\QZ NE DA JR 4=0:=⟨Dw,Dw⟩
theorem hup25:PS 15 (f0t NE DA JR true false 0):=c6z pStUp λargs pre s h a=>by
 obtain⟨q,e,b⟩:=b20 NE DA JR;unfold f0t at h;split at h
 .split at h
  .rename_i g;subst g;cases h;subst a;refine⟨q,?_,b SR.1 SR.2⟩;unfold Xi;simp only[e,Kb,up25a.1,up25a.2]
  .split at h
   .rename_i g;subst g;cases h;subst a;refine⟨q,?_,b SR.1 SR.2⟩;unfold Xi;simp only[e,Kb,up25b.1,up25b.2]
   .cases h
 .cases h
theorem flp25:PG NE DA JR 1 0=0:=Dw
theorem hflp25:PS 23 (Te (.agg (Fo NE DA JR)) (.agg [.int .u8 1,.int .i64 0]) (.tup [.agg (Fo NE (HC DA (EW 1 0)) t25),.int .i64 0])):=f4b pFlp (by obtain⟨q,e,a⟩:=b20 NE DA JR;refine⟨q,?_,a SR.1 SR.2⟩;unfold kFlp;simp only[e,Kb];unfold rFlp zP zR zL;rw[flp25,Iz rfl,Iz rfl,Iz rfl];rfl)
theorem L25ok:L25 (CI 2 1) NE DA JR t25:=
 ⟨SR.1,SR.2,⟨rfl,rfl⟩,Dw,Dw,Dw,Dw,Dw,Dw,Dw,Dw,in25b,Dw,Dw,Dw,Dw,Dw,Dw⟩
theorem d87:PS 10 UD:=c3t (oFlat (d5e Dy) (flP_eq Dy) (flL_eq Dy)) (d91 hfl25 hfd25) hup25 hflp25 rfl rfl rfl L25ok
section
open Go.RowKit Go.ChangeShapes Go.WideShapes Go.ChangeAt
abbrev laidL:List (String×DataW Unit):=[("crimp/moves.turns",Rows.laid_crimp_moves_turns),("crimp/cells.quarters",Rows.laid_crimp_cells_quarters)]
theorem c1w{W:World}(h:laidMetH Tryz.prog laidL W):∀g t,QN g=some t->t.pure=true/\D W (λ_=>False) BQ t (.pointer (some ⟨g,0,none⟩)):=by
 have e:∀b,¬(λ_:Nat=>False) b:=λ_ h=>h;rw[Go.MakeChecks.laidMetH_plain _ _ _ Dw]at h;obtain⟨ps,⟨g0,t0,cs0,f0,p0,q0,c,i,j,k,⟨g1,t1,cs1,f1,p1,q1,l,d,n,o,_,_⟩,_⟩,_,_⟩:=h;have r0:=b5v (A:=λ_=>False) e (sz:=4) (m:=8) (f:=QS) c i j k (g0:=0) Dw Dw Dw Dv Dw;have q:=b5v (A:=λ_=>False) e (sz:=17) (m:=4) (f:=Wi) l d n o (g0:=1) Dw Dw Dw Dv Dw;intro g t a;unfold QN at a;split at a
 .cases a;exact r0
 .cases a;exact q
 .cases a
section
variable{H:Type}{enc:TypeId × Value->H}{w:World}{base:Nat}{sp:Nat->Bool}{held:Bool}{fuel:Nat}{cs:List Value}{x:DataW H × List MemPlace}
end
section
variable{H:Type}{enc:TypeId × Value->H}{w:World}{base:Nat}{sp:Nat->Bool}{held:Bool}{fuel:Nat}{cs:List Value}{x:DataW H × List MemPlace}
theorem f4s(h:DataW.trod enc Tryz.prog w base sp held fuel 77 cs=some x):∃p:Int×Int×Int,(AE .u8 p.1/\AE .u8 p.2.1/\AE .u8 p.2.2)/\cs=[.int .u8 p.1,.int .u8 p.2.1,.int .u8 p.2.2]:=by
 obtain⟨xs,m,_,_,g,pt,hx⟩:=DataW.trod_array Tryz.underlying77 h;have g:cs.length=3:=g.trans Dw;match cs,g with
 | [i,j,k],_=>
   have d:=hx 0 Dv;have e:=hx 1 Dv;have f:=hx 2 Dv;rw[Iy Dv]at d e f;replace d:DataW.trod enc Tryz.prog w base sp held m 5 [i]=some _:=d;replace e:DataW.trod enc Tryz.prog w base sp held m 5 [j]=some _:=e;replace f:DataW.trod enc Tryz.prog w base sp held m 5 [k]=some _:=f;obtain⟨a,l,n⟩:=XZ Tryz.underlying5 d;obtain⟨b,o,q⟩:=XZ Tryz.underlying5 e;obtain⟨c,r,s⟩:=XZ Tryz.underlying5 f;cases l;cases o;cases r;exact⟨(a,b,c),⟨n,q,s⟩,rfl⟩
theorem rd_s(h:DataW.trod enc Tryz.prog w base sp held fuel 24 cs=some x):∃(q:Int×Int×List (Int×Int×Int)) (v:Value),Qe q.1 q.2.1 q.2.2/\cs=[.int .u8 q.1,.int .u8 q.2.1,v]/\D w (λ_=>False) BQ (.sl 3 q.2.2.length (DP.row q.2.2) none) v:=by
 obtain⟨e,n⟩:=d5x Tryz.underlying24 h;have e:cs.length=3:=e.trans Dw;match cs,e with
 | [u,z,o],_=>
   simp only[Jd,forall_eq_or_imp,Na,false_implies,implies_true,and_true]at n;obtain⟨⟨B,C,f⟩,⟨E,F,g⟩,⟨G,H,i⟩⟩:=n;replace f:DataW.trod enc Tryz.prog w base sp held B 5 [u]=some C:=f;replace g:DataW.trod enc Tryz.prog w base sp held E 5 [z]=some F:=g;replace i:DataW.trod enc Tryz.prog w base sp held G 22 [o]=some H:=i;obtain⟨a,I,r⟩:=XZ Tryz.underlying5 f;obtain⟨b,J,t⟩:=XZ Tryz.underlying5 g;cases I;cases J;obtain⟨l,v,K,_,L,M⟩:=rd_sl DP.d DP.sv (λq=>AE .u8 q.1/\AE .u8 q.2.1/\AE .u8 q.2.2) Tryz.underlying22 (sz:=3) Dw Dv (A:=λ_=>False) (λ_ h=>h) (λm R y N=>by
    obtain⟨q,k,rfl⟩:=f4s N;refine⟨q,k,rfl,rfl,λv c=> ?_,λj s v hs c=> ?_⟩
    .simp at c;rcases c with rfl|rfl|rfl<;>rfl
    .match j,hs,c with
     |0,hs,c=>simp[DP]at hs c;subst hs c;exact .int
     |1,hs,c=>simp[DP]at hs c;subst hs c;exact .int
     |2,hs,c=>simp[DP]at hs c;subst hs c;exact .int) i
   cases K;simp only[AE]at r t;refine⟨(a,b,l),o,⟨r,t,λq k=> ?_⟩,rfl,L⟩;have:=M q k;simp only[AE]at this;unfold Py;omega
theorem arg_s{v:Value}{d:DataW H}{ps:List MemPlace}(b:Value.okWide Tryz.prog w .any base 24 v)(h:DataW.Trod enc Tryz.prog w 0 sp held 24 v d ps):∃q:Int×Int×List (Int×Int×Int),Qe q.1 q.2.1 q.2.2/\D w (λ_=>False) BQ (.agg (KS q.1 q.2.1 q.2.2)) v:=by
 obtain⟨fuel,h⟩:=h;obtain⟨q,u,c,f,g⟩:=rd_s h;unfold Value.okWide at b;rw[Tryz.underlying24]at b;obtain⟨j,rfl,_,_⟩:=b;refine⟨q,c,?_⟩;have e:j=[.int .u8 q.1,.int .u8 q.2.1,u].toArray:=by apply Array.ext';exact f
 rw[e];refine .agg _ rfl (λi s v hs a=> ?_);match i,hs,a with
 |0,hs,a=>simp[KS]at hs a;subst hs a;exact .int
 |1,hs,a=>simp[KS]at hs a;subst hs a;exact .int
 |2,hs,a=>simp[KS]at hs a;subst hs a;exact g
end
section
variable{H:Type}{enc:TypeId × Value->H}{w:World}{base:Nat}{sp:Nat->Bool}{held:Bool}
theorem f6k{v:Value}{d:DataW H}{ps:List MemPlace}(b:Value.okWide Tryz.prog w .any base 22 v)(h:DataW.Trod enc Tryz.prog w 0 sp held 22 v d ps):∃l:List (Int×Int×Int),(∀q∈l,AE .u8 q.1/\AE .u8 q.2.1/\AE .u8 q.2.2)/\D w (λ_=>False) BQ (.sl 3 l.length (DP.row l) none) v:=by
 obtain⟨fuel,h⟩:=h;obtain⟨l,u,c,_,e,f⟩:=rd_sl DP.d DP.sv (λq=>AE .u8 q.1/\AE .u8 q.2.1/\AE .u8 q.2.2) Tryz.underlying22 (sz:=3) Dw Dv (A:=λ_=>False) (λ_ h=>h) (λm R y g=>by
  obtain⟨q,i,rfl⟩:=f4s g;refine⟨q,i,rfl,rfl,λv a=> ?_,λj s v hs a=> ?_⟩
  .simp at a;rcases a with rfl|rfl|rfl<;>rfl
  .match j,hs,a with
   |0,hs,a=>simp[DP]at hs a;subst hs a;exact .int
   |1,hs,a=>simp[DP]at hs a;subst hs a;exact .int
   |2,hs,a=>simp[DP]at hs a;subst hs a;exact .int) h
 refine⟨l,f,?_⟩;unfold Value.okWide at b;rw[Tryz.underlying22]at b;replace b:Cell.okWide Tryz.prog w .any base 22 v:=b;unfold Cell.okWide at b;rw[Tryz.underlying22]at b;cases v;all_goals first
  |(simp[Value.cells]at c;subst c;exact e)
  |(exfalso
    replace b:Cell.ok _ _ _ _ _ _:=b;unfold Cell.ok at b;rw[Tryz.underlying22]at b;exact b)
end
end
end Go.Proofs.YtaihldljnlgnoaaGreatDoor.V
