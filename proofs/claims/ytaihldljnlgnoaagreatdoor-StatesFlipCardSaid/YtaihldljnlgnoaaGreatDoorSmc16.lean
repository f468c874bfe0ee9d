/-
  Parts of the proof: L29. Conditions: none.
-/
import Derived.Test.YtaihldljnlgnoaaGreatDoorSmc7
import Derived.Test.YtaihldljnlgnoaaGreatDoorSmc13
import Derived.Test.YtaihldljnlgnoaaGreatDoorSmc15
set_option maxRecDepth 100000
set_option maxHeartbeats 40000000
namespace Go.Proofs.YtaihldljnlgnoaaGreatDoor.V
open Go
def QG(m:Mv):List SV:=[.int .u8 m.t,.int .i64 m.x,.int .i64 m.y]
def ivC(m:Mv):List SV:=[.con (.int .u8 (ER m).t),.int .i64 (ER m).x,.int .i64 (ER m).y]
def FSMo:Fam:=⟨(Int×Int×List (Int×Int×Int))×Mv,λ((w,h,l),m)=>[.agg (HE w h l),.agg (QG m)],λ((w,h,l),m)=>OD w h l/\AD .u8 m.t/\AD .i64 m.x/\AD .i64 m.y,λ_=>.bool true⟩
theorem iv_eq{m:Mv}(h:vM m):Ml m.t m.x m.y=0/\(⟨PA m.t,Pf m.t m.x m.y,Pg m.t m.x m.y⟩:Mv)=ER m/\vM (ER m):=by
 have a:=KD h;have hx:=KR h;have e:(⟨PA m.t,Pf m.t m.x m.y,Pg m.t m.x m.y⟩:Mv)=ER m:=by obtain⟨t,x,y⟩:=m;unfold CM at a;rcases Jl a with q|q|q|q|q|q|q|q<;>(simp only at q;subst q;refine Mv.ext' (by first|rfl|kernel_rfl) ?_ ?_<;>(simp[Pf,Pg,ER,PD,AL,tA,tB,tC,tD,tb]<;>omega))
 have b:vM (ER m):=by refine f21 (Sv a) (g0q a hx.2.2) ?_ ?_<;>(unfold CM at a;rcases Jl a with q|q|q|q|q|q|q|q<;>(simp only[ER,PD,AL,tb,q]<;>simp<;>omega))
 refine⟨?_,e,b⟩;unfold Ml;rw[Jf h.2];have c:PA m.t=(ER m).t:=Md Mv.t e;have d:Pf m.t m.x m.y=(ER m).x:=Md Mv.x e;have f:Pg m.t m.x m.y=(ER m).y:=Md Mv.y e;unfold KL;rw[c,d,f,Jf b.2]
section
variable{p p2:Pt}{r r2 m:Mv}{L M:List Stk}{e:Int}
structure MovF (p:Pt) (r:Mv) (L:List Stk) (m:Mv) (e:Int) (p2:Pt) (r2:Mv) (M:List Stk):Prop where
 bad:¬CB m.t m.x m.y=0\/4<=m.t->e=1/\M=[]
 or:CB m.t m.x m.y=0->m.t<4->e=0\/e=3/\M=[]
 ok:e=0->p2=p/\r2=BE r m/\MvG p r L m M
 far:e=0->∀s∈L,(-4096<=(AV m s.c).x/\(AV m s.c).x<=4096)/\ -4096<=(AV m s.c).y/\(AV m s.c).y<=4096
 sk:ET M
theorem MovF.good(F:MovF p r L m e p2 r2 M)(he:e=0):CB m.t m.x m.y=0/\m.t<4:=by refine Mj λq=> ?_;have:=(F.bad E4).1;omega
theorem mov_f(S:StS p r L)(f:0<=m.t):MovF p r L m (FO p r L m) (zP (FO p r L m) p) (zR (FO p r L m) (EH r m)) (zL (FO p r L m) (DJ m L)):=by
 have a:¬CB m.t m.x m.y=0\/4<=m.t->FO p r L m=1:=λh=>by unfold FO;rw[Jg (λq=>q S.ck),Jf E4]
 have good:CB m.t m.x m.y=0->m.t<4->FO p r L m=FU p r L m:=λc d=>by unfold FO;rw[Jg (λq=>q S.ck),Jg E4]
 have z:FO p r L m=0->(CB m.t m.x m.y=0/\m.t<4)/\FU p r L m=0:=λh=>by
  have g:CB m.t m.x m.y=0/\m.t<4:=Mj λq=>by have:=a E4;omega
  exact⟨g,by rw[<-good g.1 g.2];exact h⟩
 have lst:FO p r L m≠0->zL (FO p r L m) (DJ m L)=[]:=λh=>Jg h;have G:=S.g;refine⟨λh=>⟨a h,lst (by rw[a h];decide)⟩,λc d=> ?_,λh=> ?_,λh=> ?_,?_⟩
 .rw[good c d];rcases @f4v p r m L with q|q
  .exact .inl q
  .refine .inr ⟨q,?_⟩;rw[<-good c d];exact lst (by rw[good c d,q];decide)
 .obtain⟨⟨g1,e⟩,b⟩:=z h;have Y:=f2n G E4 (⟨f,E4⟩:CM m) b;rw[f5w e]at Y;rw[h];refine⟨Jf rfl,?_,?_⟩
  .show zR 0 (EH r m)=_;rw[<-Y.th];exact Jf rfl
  .have:zL 0 (DJ m L)=DJ m L:=Jf rfl;rw[this];exact Y
 .obtain⟨⟨g1,e⟩,b⟩:=z h;exact λs hs=>mv_far G E4 (⟨f,E4⟩:CM m) b hs
 .by_cases h:FO p r L m=0
  .obtain⟨⟨g1,e⟩,b⟩:=z h;rw[h];have:zL 0 (DJ m L)=DJ m L:=Jf rfl;rw[this];exact(f3s S.sn b).1
  .rw[lst h];exact D7
def g1f(P:Prop)(a b e c d r2:SV):AK
 | [x,.agg [.int k t,u,v]]=>some (x=a/\SV.agg [.int k t,u,v]=b,e)
 | [x,.agg [.con t,u,v]]=>some ((x=c/\SV.agg [.con t,u,v]=d)/\P,r2)
 |_=>none
theorem MovF.pr(F:MovF p r L m e p2 r2 M)(S:StS p r L)(c:e=0):prOK p (BE r m)/\EV M/\BE (BE r m) (ER m)=r:=by obtain⟨_,_,Y⟩:=F.ok c;have hN:=CQ S.g.hs;have a:=(S.g.G.ok 0 ⟨M3 _,E4⟩).1;rw[S.g.r0]at a;have b:=KD Y.vm;have d:=KD Y.vr;unfold CM at d;refine⟨⟨S.pr.1,E4⟩,Y.g.stIn,?_⟩;rw[RY a b (Sv b),(YW b).1,(Xe a).1]
theorem oMv(S:StS p r L)(F:MovF p r L m (FO p r L m) p2 r2 M)(y:zP (FO p r L m) p=p2)(A:zR (FO p r L m) (EH r m)=r2)(B:zL (FO p r L m) (DJ m L)=M)(C:0<=m.t/\m.t<=255){z:Int}(E:z=0)(d:FO p r L m=e):
 PS 16 (g1f (e=0) (.agg (BD p r L)) (.agg (QG m)) (.tup [.agg (BD p2 r2 M),.int .i64 e]) (.agg (BD p2 r2 M)) (.agg (ivC m)) (.tup [.agg (BD p r L),.int .i64 z])):=XW pMov λargs pre s b o=>by
 unfold g1f at b;split at b
 .cases b;obtain⟨rfl,f⟩:=o;cases f;obtain⟨q,i,j⟩:=OJ p r L;refine⟨q/\0<=m.t/\m.t<=255,?_,j S.pr S.sn,C⟩;show (Fo (.agg (BD p r L))).map (λq=>(q.1/\0<=m.t/\m.t<=255,Ud q.2.1 q.2.2.1 q.2.2.2 m))=_;rw[i,<-d,<-y,<-A,<-B];rfl
 .cases b;obtain⟨⟨rfl,f⟩,l⟩:=o;cases f;obtain⟨G,H,Y⟩:=F.ok (d.trans l);obtain⟨I,J,K⟩:=F.pr S (d.trans l);obtain⟨g1,u⟩:=F.good (d.trans l);have a:=KD Y.vm;have v:=Sv a;have n:(ER m).t<4↔m.t<4:=by
   unfold CM at a;unfold ER PD;rcases Jl a with k|k|k|k|k|k|k|k<;>(rw[k];simp[tb])
  have w:=(iv_eq Y.vm).2.2;have HI:=d2q S.g E4 a Y (S.g.vr E4) w K (λc x=>by rw[<-RQ a v x,(YW a).1,c6z x]) n
  rw[f5w (n.2 u)]at HI;have N:FO p (BE r m) M (ER m)=0:=by unfold FO;rw[Jg (λq=>q Y.ck),Jg (λq=>q.elim (λq=>q w.2) (λq=>by have:=n.2 u;omega)),HI.1]
  obtain⟨q,i,j⟩:=OJ p (BE r m) M;unfold CM at v;refine⟨q/\0<=(ER m).t/\(ER m).t<=255,?_,j I J,E4⟩;show (Fo (.agg (BD p2 r2 M))).map (λq=>(q.1/\0<=(ER m).t/\(ER m).t<=255,Ud q.2.1 q.2.2.1 q.2.2.2 (ER m)))=_;rw[G,H,i];show some (_,Ud p (BE r m) M (ER m))=_;unfold Ud;rw[N,HI.2.1,HI.2.2,E];rfl
 .cases b
theorem oMvCk(S:StS p r L)(F:MovF p r L m e p2 r2 M){c:Int}(b:c=0):PS 12 (Sc (e=0) (.agg (BD p2 r2 M)) (.int .i64 c)):=c4z Uk λa=>by obtain⟨d,f,Y⟩:=F.ok a;obtain⟨g,h,_⟩:=F.pr S a;obtain⟨q,i,j⟩:=OJ p (BE r m) M;refine⟨q,?_,j g h⟩;rw[d,f,b];show PC [.agg (BD p (BE r m) M)]=some (q,.int .i64 0);unfold PC;simp only[i,Kn,Y.ck]
theorem oIv{y:Int}(a:0<=m.t)(c:y=0):PS 21 (Sc (CB m.t m.x m.y=0) (.agg (QG m)) (.tup [.agg (ivC m),.int .i64 y])):=c4z pMvInv λb=>by obtain⟨d,e,e3⟩:=iv_eq (⟨a,b⟩:vM m);have k:=Pz b;refine⟨_,?_,(⟨a,E4⟩:0<=m.t/\m.t<=255)⟩;show some (_,_)=some (_,SV.tup [.agg [.int .u8 (ER m).t,.int .i64 (ER m).x,.int .i64 (ER m).y],.int .i64 y]);rw[<-e,c,d];rfl
theorem oDif(S:StS p r L){d:Int}(b:d=0):PS 22 (Ry (.agg (BD p r L)) (.agg (BD p r L)) (.int .i64 d)):=f3w pDif (by subst b;obtain⟨q,c,a⟩:=OJ p r L;refine⟨(q/\q)/\p=p/\r=r/\L=L,?_,⟨a S.pr S.sn,a S.pr S.sn⟩,rfl,rfl,rfl⟩;unfold kDif;simp only[c])
def d6y(c:Cl):Bool:=decide (c.x< -4096)||decide (4096<c.x)||decide (c.y< -4096)||decide (4096<c.y)
def UN(m:Mv)(L:List Stk)(i:Nat):Bool:=(L.take i).any λs=>d6y (AV m s.c)
theorem f0w{i:Nat}(h:i<L.length):UN m L (i+1)=(UN m L i||decide ((AV m (L.getD i AA.d).c).x< -4096)||decide (4096<(AV m (L.getD i AA.d).c).x)||decide ((AV m (L.getD i AA.d).c).y< -4096)||decide (4096<(AV m (L.getD i AA.d).c).y)):=by unfold UN;rw[IZ (d:=AA.d) h,Nt];simp[d6y,Bool.or_assoc]
theorem far_no{i:Nat}(h:∀s∈L,(-4096<=(AV m s.c).x/\(AV m s.c).x<=4096)/\ -4096<=(AV m s.c).y/\(AV m s.c).y<=4096):UN m L i=false:=by unfold UN;rw[Jy];intro s hs;have:=h s (Nk hs);unfold d6y;simp only[Kk,Jq];omega
def moOw(w h:Int)(l:List (Int×Int×Int))(m:Mv)(p:Pt)(r:Mv)(L:List Stk)(p2:Pt)(r2:Mv)(M:List Stk):List Blk:=[.cells 24 (HE w h l),.cells 31 (QG m),.cells 34 (BD p r L),.cells 34 (BD p2 r2 M)]
def ISMo(w h:Int)(l:List (Int×Int×Int))(m:Mv)(p:Pt)(r:Mv)(L:List Stk)(p2:Pt)(r2:Mv)(M:List Stk)(e:Int):Nat->Option Inv
 |7=>some {β:=Nat,ok:=λi=>i<=L.length,st:=λi=>⟨[⟨9,none,.int .i64 i⟩,⟨8,none,.bool (UN m L i)⟩,⟨7,none,.int .i64 e⟩,⟨6,none,.own 3 0⟩,⟨5,none,.own 2 0⟩,⟨3,none,.own 1 0⟩],moOw w h l m p r L p2 r2 M⟩,μ:=λi=>L.length-i}
 |16=>some {β:=Nat,ok:=λi=>i<=L.length,st:=λi=>⟨[⟨11,none,.int .i64 i⟩,⟨6,none,.own 3 0⟩,⟨5,none,.own 2 0⟩,⟨3,none,.own 1 0⟩],moOw w h l m p r L p2 r2 M⟩,μ:=λi=>L.length-i}
 |_=>none
theorem f97{w h:Int}{l:List (Int×Int×Int)}(C:PS 10 QK)(hx:OD w h l)(hS:NS w h l=(p,r,L))(j:AD .u8 m.t/\AD .i64 m.x/\AD .i64 m.y){z c y d:Int}(E:z=0)(G:c=0)(H:y=0)(I:d=0):PS 5 (TX [.agg (HE w h l),.agg (QG m)] (.bool true)):=by
 have S:=f53 hS;have J:=oSOf hx hS;simp only[AD]at j;have F:=mov_f S j.1.1 (m:=m);have K:=λ(p2:Pt) (r2:Mv) (M:List Stk) (e:Int) n o s b F=>oMv (p2:=p2) (r2:=r2) (M:=M) (e:=e) S F n o s j.1 E b;have N:=oDif S I;obtain⟨e,b⟩:∃e,FO p r L m=e:=⟨_,rfl⟩
 obtain⟨p2,n⟩:∃p2,zP (FO p r L m) p=p2:=⟨_,rfl⟩
 obtain⟨r2,o⟩:∃r2,zR (FO p r L m) (EH r m)=r2:=⟨_,rfl⟩
 obtain⟨M,s⟩:∃M,zL (FO p r L m) (DJ m L)=M:=⟨_,rfl⟩
 rw[n,o,s]at F;have O:=K p2 r2 M e n o s b F;clear K;rw[b]at F;have P:=oMvCk S F G;have Q:=oIv (m:=m) j.1.1 H;clear n o s b hS;refine con [(9,Sn (.agg (HE w h l)) (.agg (BD p r L))),(16,g1f (e=0) (.agg (BD p r L)) (.agg (QG m)) (.tup [.agg (BD p2 r2 M),.int .i64 e]) (.agg (BD p2 r2 M)) (.agg (ivC m)) (.tup [.agg (BD p r L),.int .i64 z])),(12,Sc (e=0) (.agg (BD p2 r2 M)) (.int .i64 c)),(21,Sc (CB m.t m.x m.y=0) (.agg (QG m)) (.tup [.agg (ivC m),.int .i64 y])),(22,Ry (.agg (BD p r L)) (.agg (BD p r L)) (.int .i64 d)),(17,OI),(18,UO),(19,XL),(20,TV),(10,QK)] (by simpa using⟨J,O,P,Q,N,QO,pImg,pLa25,d8e,C⟩) (F1 [.agg (HE w h l),.agg (QG m)] (.bool true)) (λ_=>ISMo w h l m p r L p2 r2 M e) (TX [.agg (HE w h l),.agg (QG m)] (.bool true)) (law1 (by simp[HE,QG,BN,SV.le2,SV.le1,BJ,SV.le0,HV,GU])) ?_ Tryz.func5 E5 E5 E5 ?_
 .exact C3
 .rintro⟨⟩ _;have hMl:=F.sk.1;have Q7:=S.sn.1.1;have Z:=F.sk;have R:∀i,i<L.length->BH (L.getD i AA.d).c/\((-971<=(L.getD i AA.d).c.x/\(L.getD i AA.d).c.x<=971)/\ -971<=(L.getD i AA.d).c.y/\(L.getD i AA.d).c.y<=971)/\0<(L.getD i AA.d).l.length:=λi a=>⟨S.g.cQ (CY a),S.g.cB (CY a),List.length_pos_iff.2 (S.g.ne _ (CY a))⟩
  have vr:=KR (S.g.vr E4);have T:=KD (S.g.vr E4);unfold CM at T;have qt:=LH M Z;refine X0a _ ?_;(repeat' first|constructor|intro h)<;>refine Lm ?_
  .exact⟨rfl,rfl⟩
  .exact j.1
  .obtain⟨k1,k2⟩:=F.bad Ea;rw[k1,k2];rfl
  .have u:CB m.t m.x m.y=0/\m.t<4:=Ea;clear h;have vx:=Pz u.1;have U:=F.or u.1 u.2;refine⟨(0:Nat),Js _,?_,?_⟩
   .exact X3c
   .intro i a;replace a:i<=L.length:=a;clear O P Q N J C;refine X0a _ ?_;(repeat' first|constructor|intro h)<;>refine Lm ?_
    all_goals(try simp only[In,Ip]at*)
    all_goals(try first
     |exact Ay
     |(obtain⟨A,q2,q3⟩:=R i E4
       unfold BH at A;exact⟨⟨E4,E4⟩,⟨⟨E4,E4⟩,E4,E4⟩,⟨E4,E4⟩,⟨E4,E4⟩,E4,E4⟩)
     |(refine⟨i+1,Ei,Ef,?_⟩
       have hf:=(@f0w m L i E4).symm;all_goals refine X0a _ ?_;(repeat' first|constructor|intro h)<;>refine Lm ?_
       all_goals first|rfl|exact hf|exact Be|exact A8|omega|skip)
     |(have q:=‹UN m L i=true›
       rcases U with k|⟨k1,k2⟩
       .rw[far_no (F.far k)]at q;cases q
       .rw[k1,k2];rfl)
     |(have q:=‹¬ e=0›
       rcases U with k|⟨k1,k2⟩
       .exact absurd k q
       .rw[k1];rfl))
    have b:e=0:=E8;obtain⟨F1,B,Y⟩:=F.ok b;have ht:CM m:=KD Y.vm;have si:∀i,i<L.length->AX M ⟨(sq m.t (L.getD i AA.d).c.x (L.getD i AA.d).c.y).1+m.x,(sq m.t (L.getD i AA.d).c.x (L.getD i AA.d).c.y).2+m.y,tq m.t (L.getD i AA.d).c.q⟩=(L.getD i AA.d).l:=λi a=>by have:=mv_at S.g ht Y (CY (d:=AA.d) a);unfold gv at this;rw[Jf u.2]at this;exact this
    refine⟨(0:Nat),Js _,?_,?_⟩
    .exact X3c
    .intro i a;replace a:i<=L.length:=a;have v:=si i;have hgi:=Pp S.sn.1 i;have e1:r2.t=tt r.t m.t:=by rw[B];rfl
     have e2:r2.x=(AL m.t r.x r.y).1+m.x:=by rw[B];rfl
     have e3:r2.y=(AL m.t r.x r.y).2+m.y:=by rw[B];rfl
     refine X0a _ ?_;(repeat' first|constructor|intro h)<;>refine Lm ?_
     all_goals(try simp only[Jv,RT.lst_row]at*)
     all_goals(try first
      |exact qt
      |exact⟨rfl,b⟩
      |exact⟨rfl,u.1⟩
      |exact⟨⟨rfl,rfl⟩,b⟩
      |exact λ_=>⟨rfl,rfl⟩
      |exact⟨⟨T,⟨E4,E4⟩,E4,E4⟩,⟨E4,E4⟩,⟨E4,E4⟩,E4,E4⟩
      |(rw[H,E,I];rfl)
      |(exfalso;simp[G]at h;done)
      |(exfalso;simp[e1,e2,e3]at h;done))
     all_goals(try simp only[Iv]at*)
     all_goals
      have V:i<L.length:=E4;have W:=v V;obtain⟨A,q2,q3⟩:=R i V;unfold BH at A;first
       |exact Ay
       |exact⟨⟨E4,E4⟩,⟨⟨E4,E4⟩,E4,E4⟩,⟨E4,E4⟩,⟨E4,E4⟩,E4,E4⟩
       |(rw[W]
         first
          |exact λ_=>⟨E4,E4⟩
          |exact λ_=>Fd)
       |exact λ_=>⟨E4,E4⟩
       |(exfalso
         have X:=‹(_||_)=true›;rw[W]at X;simp at X
         done)
       |(refine⟨i+1,Ei,Ef,?_⟩
         all_goals refine X0a _ ?_;(repeat' first|constructor|intro h)<;>refine Lm ?_
         all_goals first|exact Bk|omega|skip)
       |skip
end
theorem f92(a:PS 10 QK):PS 5 (SL FSMo):=f4w ⟨_,Tryz.func5,E5,E5⟩ λ((w,h,l),m) b=>by
 obtain⟨hx,c⟩:=b;cases e:NS w h l with
 |mk p s=>cases s with
  |mk r L=>exact f97 a hx e c rfl rfl rfl rfl
theorem d9r{w h a b c:Int}{l:List (Int×Int×Int)}(hx:OD w h l)(d:AD .u8 a/\AD .i64 b/\AD .i64 c):FSMo.pre ((w,h,l),⟨a,b,c⟩):=⟨hx,d⟩
end Go.Proofs.YtaihldljnlgnoaaGreatDoor.V
