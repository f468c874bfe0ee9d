/-
  Parts of the proof: L30. Conditions: none.
-/
import Derived.Test.YtaihldljnlgnoaaGreatDoorSmc9
import Derived.Test.YtaihldljnlgnoaaGreatDoorSmc16
import Derived.Test.YtaihldljnlgnoaaGreatDoorSmc22
set_option maxRecDepth 100000
set_option maxHeartbeats 40000000
namespace Go.Proofs.YtaihldljnlgnoaaGreatDoor.V
open Go
def SM(K C:Int):List SV:=[.int .u8 K,.int .i64 C]
def Yj:Fam:=⟨(Int×Int×List (Int×Int×Int))×(Int×Int)×Bool,λ((w,h,l),(K,C),b)=>[.agg (HE w h l),.agg (SM K C),.bool b],λ((w,h,l),(K,C),_)=>OD w h l/\AD .u8 K/\AD .i64 C,λ_=>.bool true⟩
def Ou(p:Pt)(r:Mv)(L:List Stk):List SV:=.con (.int .i64 p.W)::(BD p r L).tail
theorem g15{K C:Int}:¬(Al K C).t<4:=by rcases Qq K C with h|h|h|h<;>(rw[h];simp)
section
variable{p p2:Pt}{r r2:Mv}{L M:List Stk}{e K C:Int}
structure FlpF (p:Pt) (r:Mv) (L:List Stk) (K C e:Int) (p2:Pt) (r2:Mv) (M:List Stk):Prop where
 bad:¬DV K C=0->e=1/\M=[]
 or:DV K C=0->e=0\/e=3/\M=[]
 near:DV K C=0-> -8<=C/\C<=8->e=0
 ok:e=0->DV K C=0/\p2=p/\r2=BE r (Al K C)/\MvG p r L (Al K C) M
 sk:ET M
theorem flp_f(S:StS p r L):FlpF p r L K C (Eo p r L K C) (zP (Eo p r L K C) p) (zR (Eo p r L K C) (EH r (DT K C))) (zL (Eo p r L K C) (NE L K C)):=by
 have b:¬DV K C=0->Eo p r L K C=1:=λh=>by unfold Eo;rw[Jg (λq=>q S.ck),Jf h]
 have good:DV K C=0->Eo p r L K C=FU p r L (DT K C):=λh=>by unfold Eo;rw[Jg (λq=>q S.ck),Jg (λq=>q h)]
 have lst:Eo p r L K C≠0->zL (Eo p r L K C) (NE L K C)=[]:=λh=>Jg h;have e:DV K C=0->DT K C=Al K C/\vM (Al K C):=λh=>by have k:=b3b h;exact f86 ⟨k.1,k.2.1⟩ ⟨k.2.2.1,k.2.2.2⟩
 have i:Eo p r L K C=0->DV K C=0/\zL (Eo p r L K C) (NE L K C)=NE L K C/\EH r (DT K C)=BE r (Al K C)/\MvG p r L (Al K C) (NE L K C):=λh=>by
  have c:DV K C=0:=Mj λq=>by have:=b q;omega
  obtain⟨a,f⟩:=e c;have d:=good c;rw[h,a]at d;have Y:=f2n S.g E4 GS d.symm;rw[d2e (by rcases Qq K C with q|q|q|q<;>(rw[q];simp))]at Y;have j:NE L K C=(DJ (Al K C) L).map Fl:=by unfold NE;rw[a]
  rw[j];refine⟨c,Jf h,?_,Y⟩;rw[a];exact Y.th
 refine⟨λh=>⟨b h,lst (by rw[b h];decide)⟩,λh=> ?_,λh hC=> ?_,λh=> ?_,?_⟩
 .rw[good h];rcases @f4v p r (DT K C) L with q|q
  .exact .inl q
  .refine .inr ⟨q,?_⟩;rw[<-good h];exact lst (by rw[good h,q];decide)
 .obtain⟨a,f⟩:=e h;rw[good h,a];refine g0x S.g E4 f ?_ ?_<;>(rcases Qq K C with q|q|q|q<;>(rw[q];simp;try omega))
 .obtain⟨c,a,f,d⟩:=i h;refine⟨c,by rw[h];exact Jf rfl,?_,by rw[a];exact d⟩;rw[h,<-f];exact Jf rfl
 .by_cases h:Eo p r L K C=0
  .obtain⟨c,a,f,d⟩:=i h;rw[a];exact d.g.stIn.1
  .rw[lst h];exact D7
theorem FlpF.pr(F:FlpF p r L K C e p2 r2 M)(S:StS p r L)(b:e=0):prOK p (BE r (Al K C))/\EV M/\BE (BE r (Al K C)) (Al K C)=r:=by obtain⟨_,_,_,Y⟩:=F.ok b;have hN:=CQ S.g.hs;have a:=(S.g.G.ok 0 ⟨M3 _,E4⟩).1;rw[S.g.r0]at a;have c:=KD Y.vr;unfold CM at c;refine⟨⟨S.pr.1,E4⟩,Y.g.stIn,?_⟩;rw[RY a GS GS,c44,(Xe a).1]
def f9q(P:Prop)(a b d c r2:SV):AK
 | [.agg (.int k t::u),y]=>some (SV.agg (.int k t::u)=a/\y=b,d)
 | [.agg (.con t::u),y]=>some ((SV.agg (.con t::u)=c/\y=b)/\P,r2)
 |_=>none
theorem g0a(p:Pt)(r:Mv)(L:List Stk):(SV.agg (Ou p r L)).nc1=.agg (BD p r L):=rfl
theorem oFp(S:StS p r L)(F:FlpF p r L K C (Eo p r L K C) p2 r2 M)(o:zP (Eo p r L K C) p=p2)(t:zR (Eo p r L K C) (EH r (DT K C))=r2)(u:zL (Eo p r L K C) (NE L K C)=M){z:Int}(v:z=0)(b:Eo p r L K C=e):
 PS 23 (f9q (e=0) (.agg (BD p r L)) (.agg (SM K C)) (.tup [.agg (Ou p2 r2 M),.int .i64 e]) (.agg (Ou p2 r2 M)) (.tup [.agg (BD p r L),.int .i64 z])):=XW pFlp λargs pre s a l=>by
 unfold f9q at a;split at a
 .cases a;obtain⟨d,rfl⟩:=l;rw[d];obtain⟨q,f,i⟩:=OJ p r L;refine⟨q,?_,i S.pr S.sn⟩;show (Fo (.agg (BD p r L))).map (λq=>(q.1,Ta q.2.1 q.2.2.1 q.2.2.2 K C))=_;rw[f,<-b,<-o,<-t,<-u];rfl
 .cases a;obtain⟨⟨d,rfl⟩,m⟩:=l;rw[d];obtain⟨n,w,x,Y⟩:=F.ok (b.trans m);obtain⟨y,A,B⟩:=F.pr S (b.trans m);have k:=b3b n;obtain⟨j,E⟩:=f86 (K:=K) (C:=C) ⟨k.1,k.2.1⟩ ⟨k.2.2.1,k.2.2.2⟩;have HI:=d2q S.g E4 GS Y (S.g.vr E4) E B (λc G=>Qx G) Iff.rfl;rw[d2e (by rcases Qq K C with q|q|q|q<;>(rw[q];simp))]at HI;have H:Eo p (BE r (Al K C)) M K C=0:=by
   unfold Eo;rw[Jg (λq=>q Y.ck),Jg (λq=>q n),j,HI.1]
  obtain⟨q,f,i⟩:=OJ p (BE r (Al K C)) M;refine⟨q,?_,i y A⟩;show (Fo (.agg (BD p2 r2 M))).map (λq=>(q.1,Ta q.2.1 q.2.2.1 q.2.2.2 K C))=_;rw[w,x,f];show some (_,Ta p (BE r (Al K C)) M K C)=_;unfold Ta;have I:NE M K C=L:=by unfold NE;rw[j];exact HI.2.2
  rw[H,j,HI.2.1,I,v];rfl
 .cases a
theorem oFpCk(S:StS p r L)(F:FlpF p r L K C e p2 r2 M){c:Int}(b:c=0):PS 12 (Sc (e=0) (.agg (Ou p2 r2 M)) (.int .i64 c)):=c4z Uk λa=>by obtain⟨_,d,f,Y⟩:=F.ok a;obtain⟨g,h,_⟩:=F.pr S a;obtain⟨q,i,j⟩:=OJ p (BE r (Al K C)) M;refine⟨q,?_,j g h⟩;rw[d,f,g0a,b];show PC [.agg (BD p (BE r (Al K C)) M)]=some (q,.int .i64 0);unfold PC;simp only[i,Kn,Y.ck]
def kSm2(P:Prop)(c a:SV)(x y:Bool):AK
 | [.agg (.con t::u),b]=>some ((SV.agg (.con t::u)=c/\b=a)/\P,.bool x)
 | [.agg (.int k t::u),b]=>some (SV.agg (.int k t::u)=a/\b=a,.bool y)
 |_=>none
theorem oSm(S:StS p r L)(F:FlpF p r L K C e p2 r2 M){x y:Bool}(hx:x=false)(Q:y=true):PS 25 (kSm2 (e=0) (.agg (Ou p2 r2 M)) (.agg (BD p r L)) x y):=⟨d29.1,λA w a d f s j l m c i=>by
 obtain⟨v,g1,z⟩:=OJ p r L;refine(?_:PS 25 (kSm2 (e=0) (.agg (Ou p2 r2 M)) (.agg (BD p r L)) x y)).2 A w a d f s j l m c i;clear c i m l j;have B:PS 25 (λa=>match a with
  | [.agg (.con t::u),b]=>some ((SV.agg (.con t::u)=.agg (Ou p2 r2 M)/\b=.agg (BD p r L))/\e=0,.bool x)
  |_=>none):=XW f6d λa f s c i=>by
  split at c
  .cases c;obtain⟨⟨E,rfl⟩,P⟩:=i;rw[E,hx];obtain⟨hl,R,T,Y⟩:=F.ok P;obtain⟨U,V,_⟩:=F.pr S P;obtain⟨q,B,H⟩:=OJ p (BE r (Al K C)) M;have hN:=CQ S.g.hs;have n:=(S.g.G.ok 0 ⟨M3 _,E4⟩).1;rw[S.g.r0]at n;refine⟨(q/\v)/\p=p/\¬r=BE r (Al K C),?_,⟨H U V,z S.pr S.sn⟩,rfl,λh=> ?_⟩
   .rw[R,T];show (match Fo (.agg (BD p (BE r (Al K C)) M)),Fo (.agg (BD p r L))with
     |some (q,p,r,_),some (I,J,N,_)=>some ((q/\I)/\J=p/\¬N=r,SV.bool false)
     |_,_=>none)=_
    rw[B,g1];rfl
   .have O:=(c0s (K:=K) (C:=C) n).1;have W:r.t=tt r.t (Al K C).t:=Md Mv.t h;rw[<-W]at O;by_cases o:r.t<4
    .exact(O.1 o) o
    .exact o (O.2 o)
  .cases c
 have H:PS 25 (λa=>match a with
  | [.agg (.int k t::u),b]=>some (SV.agg (.int k t::u)=.agg (BD p r L)/\b=.agg (BD p r L),.bool y)
  |_=>none):=XW d29 λa f s c i=>by
  split at c
  .cases c;obtain⟨E,rfl⟩:=i;rw[E,Q];refine⟨(v/\v)/\p=p/\r=r/\L=L,?_,⟨z S.pr S.sn,z S.pr S.sn⟩,rfl,rfl,rfl⟩;show (match Fo (.agg (BD p r L)),Fo (.agg (BD p r L))with
    |some (q,p,r,L),some (I,J,N,X)=>some ((q/\I)/\J=p/\N=r/\X=L,SV.bool true)
    |_,_=>none)=_
   rw[g1];rfl
  .cases c
 exact⟨d29.1,λA w a d f s j l m c i=>by
  unfold kSm2 at c;split at c
  .exact B.2 A w _ d f s j l m c i
  .exact H.2 A w _ d f s j l m c i
  .cases c⟩⟩
def fpOw(w h:Int)(l:List (Int×Int×Int))(K C:Int)(p:Pt)(r:Mv)(L:List Stk)(p2:Pt)(r2:Mv)(M:List Stk):List Blk:=[.cells 24 (HE w h l),.cells 71 (SM K C),.cells 34 (BD p r L),.cells 34 (Ou p2 r2 M),.cells 31 [.int .u8 (DN K C).1,.int .i64 (DN K C).2.1,.int .i64 (DN K C).2.2]]
def fpEn(a:List Entry):List Entry:=a++[⟨11,none,.own 4 0⟩,⟨8,none,.own 3 0⟩,⟨7,none,.own 2 0⟩,⟨4,none,.own 1 0⟩]
def ISFp(w h:Int)(l:List (Int×Int×Int))(K C:Int)(p:Pt)(r:Mv)(L:List Stk)(p2:Pt)(r2:Mv)(M:List Stk):Nat->Option Inv
 |14=>some {β:=Nat,ok:=λi=>i<=L.length,st:=λi=>⟨fpEn [⟨12,none,.int .i64 i⟩],fpOw w h l K C p r L p2 r2 M⟩,μ:=λi=>L.length-i,sub:=λi=>some fun
  |20=>some {β:=Nat,ok:=λk=>i<L.length/\k<=(L.getD i AA.d).l.length,st:=λk=>⟨fpEn [⟨15,none,.int .i64 k⟩,⟨14,none,.sl 1 (L.getD i AA.d).l.reverse.length (AC.row (L.getD i AA.d).l.reverse) none⟩,⟨13,none,.sl 1 (L.getD i AA.d).l.length (AC.row (L.getD i AA.d).l) none⟩,⟨12,none,.int .i64 i⟩],fpOw w h l K C p r L p2 r2 M⟩,μ:=λk=>(L.getD i AA.d).l.length-k}
  |_=>none}
 |_=>none
theorem d12{w h j f:Int}{b:Bool}{l:List (Int×Int×Int)}(X:PS 10 QK)(hx:OD w h l)(hS:NS w h l=(p,r,L))(o:AD .u8 j)(O:AD .i64 f)(Z:(b=true->1+j.tmod 4=K/\f.tmod 9=C)/\(b=false->j=K/\f=C)){z c d:Int}{x y:Bool}(hz:z=0)(hc:c=0)(hd:d=0)(s:x=false)(u:y=true):PS 6 (TX [.agg (HE w h l),.agg (SM j f),.bool b] (.bool true)):=by
 have S:=f53 hS;have hO:=oSOf hx hS;simp only[AD]at o O;have F:=@flp_f p r L K C S;have oD:=oDif S hd;have oF:=λ(p2:Pt) (r2:Mv) (M:List Stk) (e:Int) v A B a F=>oFp (K:=K) (C:=C) (p2:=p2) (r2:=r2) (M:=M) (e:=e) S F v A B hz a;obtain⟨e,a⟩:∃e,Eo p r L K C=e:=⟨_,rfl⟩
 obtain⟨p2,v⟩:∃p2,zP (Eo p r L K C) p=p2:=⟨_,rfl⟩
 obtain⟨r2,A⟩:∃r2,zR (Eo p r L K C) (EH r (DT K C))=r2:=⟨_,rfl⟩
 obtain⟨M,B⟩:∃M,zL (Eo p r L K C) (NE L K C)=M:=⟨_,rfl⟩
 rw[v,A,B]at F;have oV:=oF p2 r2 M e v A B a F;clear oF;rw[a]at F;have oC:=oFpCk S F hc;have oS:=oSm S F s u;clear v A B a hS;refine con [(9,Sn (.agg (HE w h l)) (.agg (BD p r L))),(23,f9q (e=0) (.agg (BD p r L)) (.agg (SM K C)) (.tup [.agg (Ou p2 r2 M),.int .i64 e]) (.agg (Ou p2 r2 M)) (.tup [.agg (BD p r L),.int .i64 z])),(12,Sc (e=0) (.agg (Ou p2 r2 M)) (.int .i64 c)),(22,Ry (.agg (BD p r L)) (.agg (BD p r L)) (.int .i64 d)),(25,kSm2 (e=0) (.agg (Ou p2 r2 M)) (.agg (BD p r L)) x y),(24,d6a),(18,UO),(19,XL),(20,TV),(10,QK)] (by simpa using⟨hO,oV,oC,oD,oS,pMi28,pImg,pLa25,d8e,X⟩) (F1 [.agg (HE w h l),.agg (SM j f),.bool b] (.bool true)) (λ_=>ISFp w h l K C p r L p2 r2 M) (TX [.agg (HE w h l),.agg (SM j f),.bool b] (.bool true)) (law1 (by simp[HE,SM,BN,SV.le2,SV.le1,BJ,SV.le0,HV,GU])) ?_ Tryz.func6 E5 E5 E5 ?_
 .exact C5
 .rintro⟨⟩ _;have Q7:=S.sn.1.1;have Zz:=F.sk;have hQ:∀i,i<L.length->BH (L.getD i AA.d).c/\((-971<=(L.getD i AA.d).c.x/\(L.getD i AA.d).c.x<=971)/\ -971<=(L.getD i AA.d).c.y/\(L.getD i AA.d).c.y<=971)/\0<(L.getD i AA.d).l.length:=λi m=>⟨S.g.cQ (CY m),S.g.cB (CY m),List.length_pos_iff.2 (S.g.ne _ (CY m))⟩
  have vr:=KR (S.g.vr E4);have vt:=KD (S.g.vr E4);unfold CM at vt;have qt:=LH M Zz;have t4:0<=j.tmod 4/\j.tmod 4<=3:=by rw[Km o.1];omega
  have t9: -8<=f.tmod 9/\f.tmod 9<=8:=by have h1:=Int.tmod_lt_of_pos f (show (0:Int)<9 from E4);have h2:=Int.lt_tmod_of_pos f (show (0:Int)<9 from E4);omega
  clear oV oC oD oS hO X;have J:DV K C=0↔(1<=K/\K<=4)/\ -4096<=C/\C<=4096:=by
   unfold DV;split
   .rename_i q;exact⟨λ_=>E4,λ_=>rfl⟩
   .rename_i q;exact⟨λk=>absurd k E7,λk=>absurd E4 q⟩
  have rt:0<=(DN K C).1/\(DN K C).1<=7:=@GS K C;have rb:DV K C=0->(-8192<=(DN K C).2.1/\(DN K C).2.1<=8192)/\ -8192<=(DN K C).2.2/\(DN K C).2.2<=8192:=λq=>by have k:=J.1 q;have P:(Al K C).x=(DN K C).2.1:=rfl;have Q:(Al K C).y=(DN K C).2.2:=rfl;rw[<-P,<-Q];rcases Qq K C with g|g|g|g<;>(rw[g];simp;omega)
  have R:e=0->∀i,i<L.length->AX M ⟨(sq (DN K C).1 (L.getD i AA.d).c.x (L.getD i AA.d).c.y).1+(DN K C).2.1,(sq (DN K C).1 (L.getD i AA.d).c.x (L.getD i AA.d).c.y).2+(DN K C).2.2,tq (DN K C).1 (L.getD i AA.d).c.q⟩=(L.getD i AA.d).l.reverse:=λa i m=>by obtain⟨_,_,_,Y⟩:=F.ok a;have:=mv_at S.g GS Y (CY (d:=AA.d) m);unfold gv at this;rw[Jg g15]at this;exact this
  have E:e=0->r2.t=tt r.t (DN K C).1/\r2.x=(AL (DN K C).1 r.x r.y).1+(DN K C).2.1/\r2.y=(AL (DN K C).1 r.x r.y).2+(DN K C).2.2:=λa=>by obtain⟨_,_,F2,_⟩:=F.ok a;rw[F2];exact⟨rfl,rfl,rfl⟩
  have b9:e=0->DV K C=0:=λa=>(F.ok a).1;have V4:∀(l:List Int) (k:Nat),k<l.length->l.reverse.getD ((l.length:Int)-1-(k:Int)).toNat AC.d=l.getD k AC.d:=λl k T=>by have P:((l.length:Int)-1-(k:Int)).toNat=l.length-1-k:=E4;rw[P,Jd,Jd,List.getElem?_reverse E4];have Q:l.length-1-(l.length-1-k)=k:=E4;rw[Q]
  refine X0a _ ?_;(repeat' first|constructor|intro h)<;>refine Lm ?_
  all_goals(try first
   |decide
   |exact A9)
  all_goals first
   |(have U:=‹b=true›
     obtain⟨rfl,rfl⟩:=Z.1 U)
   |(have G:=‹b=false›
     obtain⟨rfl,rfl⟩:=Z.2 G)
  all_goals(try simp only[Iv,Iy,Ip]at*)
  all_goals(try first
   |exact⟨rfl,rfl⟩
   |omega
   |(obtain⟨k1,k2⟩:=F.bad (λq=>by have:=J.1 q;omega)
     rw[k1,k2];rfl)
   |(have V:=J.2 E4
     have q:=‹¬ e=0›;rcases F.or V with k|⟨k1,k2⟩
     .exact absurd k q
     .first
       |exact absurd (F.near V t9) q
       |(rw[k1,k2,G]
         rfl))
   |exact⟨rfl,E8⟩
   |(exact absurd hc E8))
  all_goals
   have a:e=0:=E8;have H:=b9 a;have V:=J.1 H;have R:=R a;have E:=E a;have rb:=rb H;refine⟨(0:Nat),Js _,?_,?_⟩
   .exact X3c
   .intro i m;replace m:i<=L.length:=m;have hgi:=Pp S.sn.1 i;have Yz:(L.getD i AA.d).l.reverse.length=(L.getD i AA.d).l.length:=N7;refine X0a _ ?_;(repeat' first|constructor|intro h)<;>refine Lm ?_
    all_goals(try simp only[In,RT.lst_row,Ip]at*)
    all_goals(try first
     |exact qt
     |exact⟨⟨rfl,rfl⟩,a⟩
     |exact λ_=>⟨⟨rfl,rfl⟩,a⟩
     |exact λ_=>⟨rfl,rfl⟩
     |exact λ_=>⟨⟨vt,⟨E4,E4⟩,E4,E4⟩,rt,⟨E4,E4⟩,E4,E4⟩
     |(rw[hz,hd,s,u,K2 E.1,K2 E.2.1,K2 E.2.2];rfl))
    all_goals
     have N:i<L.length:=E4;have zb:=R i N;obtain⟨q1,q2,q3⟩:=hQ i N;unfold BH at q1;first
      |omega
      |exact Au
      |exact⟨rt,⟨⟨E4,E4⟩,E4,E4⟩,⟨E4,E4⟩,⟨E4,E4⟩,E4,E4⟩
      |(exfalso
        have I:=‹¬ ((L.getD i AA.d).l.length:Int)=_›;rw[zb,Yz]at I;exact I rfl)
      |(rw[zb]
        refine⟨(0:Nat),⟨N,Js _⟩,?_,?_⟩
        .exact X3c
        .intro k T;replace T:i<L.length/\k<=(L.getD i AA.d).l.length:=T;have W:=V4 (L.getD i AA.d).l k;refine X0a _ ?_;(repeat' first|constructor|intro h)<;>refine Lm ?_
         all_goals(try simp only[In,Ip]at*)
         all_goals first
          |exact Ay
          |(exfalso
            have I:=‹¬ (L.getD i AA.d).l.getD k AC.d=_›;rw[W E4]at I;exact I rfl)
          |(refine⟨k+1,⟨N,E4⟩,Ff,?_⟩
            all_goals refine X0a _ ?_;(repeat' first|constructor|intro h)<;>refine Lm ?_
            all_goals first|exact Bk|omega|skip)
          |(refine⟨i+1,Ei,Ef,?_⟩
            all_goals refine X0a _ ?_;(repeat' first|constructor|intro h)<;>refine Lm ?_
            all_goals first|exact Bk|omega|skip)
          |skip)
      |skip
end
theorem f6i(a:PS 10 QK):PS 6 (SL Yj):=f4w ⟨_,Tryz.func6,E5,E5⟩ λ((w,h,l),(K,C),b) f=>by
 obtain⟨hx,c,d⟩:=f;cases e:NS w h l with
 |mk p s=>cases s with
  |mk r L=>cases b with
   |true=>exact d12 (K:=1+K.tmod 4) (C:=C.tmod 9) a hx e c d ⟨λ_=>⟨rfl,rfl⟩,λh=>absurd h E7⟩ rfl rfl rfl rfl rfl
   |false=>exact d12 (K:=K) (C:=C) a hx e c d ⟨λh=>absurd h E7,λ_=>⟨rfl,rfl⟩⟩ rfl rfl rfl rfl rfl
theorem f22{w h K C:Int}{b:Bool}{l:List (Int×Int×Int)}(hx:OD w h l)(a:AD .u8 K/\AD .i64 C)(_:True):Yj.pre ((w,h,l),(K,C),b):=⟨hx,a⟩
end Go.Proofs.YtaihldljnlgnoaaGreatDoor.V
