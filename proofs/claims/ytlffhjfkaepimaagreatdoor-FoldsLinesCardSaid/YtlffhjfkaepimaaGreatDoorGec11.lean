/-
  Parts of the proof: Y19 L21 L22 R3 R5. Conditions: none.
-/
import Derived.Test.YtlffhjfkaepimaaGreatDoorGec3
import Derived.Test.YtlffhjfkaepimaaGreatDoorGec5
import Derived.Test.YtlffhjfkaepimaaGreatDoorGec16
import Derived.Test.YtlffhjfkaepimaaGreatDoorGec9
import Derived.MakeChecks
set_option maxRecDepth 100000
set_option maxHeartbeats 40000000
namespace Go.Proofs.YtlffhjfkaepimaaGreatDoor.V
open Go
theorem st_at{c:Cl}:∀(L:List Stk) (i:Nat),i<L.length->(∀j,j<i->(L.getD j AA.d).c≠c)->(L.getD i AA.d).c=c->AP L c=(L.getD i AA.d).l
 | [],i,h,_,_=>Ec
 |s::L,0,_,_,h=>by rw[MN];have a:s.c=c:=h;rw[Ji a];rfl
 |s::L,i+1,h,b,e=>by rw[MN];have a:s.c≠c:=b 0 Dz;rw[Jj a,st_at L i E6 (λj q=>b (j+1) Dz) e];rfl
theorem st_no{c:Cl}{L:List Stk}(h:∀j,j<L.length->(L.getD j AA.d).c≠c):AP L c=[]:=by refine b9d λb=> ?_;obtain⟨s,hs,e⟩:=Jx.1 b;obtain⟨j,a,f⟩:=Kg.1 hs;refine h j a ?_;rw[Jg,Jh a,f];exact e
def f1g:AH
 | [x,.agg [.int .i64 X,.int .i64 Y,.int .u8 Q]]=>(LB x).map λq=>(q.1,.sl 1 (AP q.2 ⟨X,Y,Q⟩).length (AC.row (AP q.2 ⟨X,Y,Q⟩)) none)
 |_=>none
def FLa25:Fam:=⟨List Stk×Int×Int×Int,λ(L,X,Y,Q)=>[EW L,.agg [.int .i64 X,.int .i64 Y,.int .u8 Q]],λ(L,_)=>CT L,λ(L,X,Y,Q)=>.sl 1 (AP L ⟨X,Y,Q⟩).length (AC.row (AP L ⟨X,Y,Q⟩)) none⟩
def ILa25:List Stk×Int×Int×Int->Nat->Option Inv
 |(L,X,Y,Q),2=>some {β:=Nat,ok:=λi=>i<=L.length/\∀j,j<i->(L.getD j AA.d).c≠⟨X,Y,Q⟩,st:=λi=>⟨[⟨5,none,.int .i64 i⟩,⟨3,none,.own 0 0⟩,⟨0,none,EW L⟩],[.cells 103 [.int .i64 X,.int .i64 Y,.int .u8 Q]]⟩,μ:=λi=>L.length-i}
 |_,_=>none
theorem pLa25:PS 97 f1g:=by
 refine con [] E2 FLa25 ILa25 f1g ?_ ?_ Tryz.func97 E1 E1 E1 ?_
 .intro args pre s h f;unfold f1g at h;split at h
  .rename_i x X Y Q;simp only[It]at h;obtain⟨⟨q,L⟩,hx,rfl,rfl⟩:=h;obtain⟨v,w⟩:=PC hx f;exact⟨(L,X,Y,Q),⟨v,Ee,Jm⟩,w,rfl⟩
  .cases h
 .exact Bz
 .rintro⟨L,X,Y,Q⟩ f;replace f:CT L:=f;have hL:=f.1;refine X0b _ ?_;(repeat' first|constructor|intro h)<;>refine Lm ?_
  all_goals(try(simp only[];omega))
  refine⟨(0:Nat),⟨Jw _,λj t=>absurd t (K5 _)⟩,?_,?_⟩
  .exact X2d
  .intro i o;replace o:i<=L.length/\∀j,j<i->(L.getD j AA.d).c≠⟨X,Y,Q⟩:=o;obtain⟨i1,m⟩:=o;by_cases n:(L.getD i AA.d).c=⟨X,Y,Q⟩
   .have u:=n;generalize r:(L.getD i AA.d).c=g at u;subst u;have e1:(L.getD i AA.d).c.x=X:=by rw[r]
    have e2:(L.getD i AA.d).c.y=Y:=by rw[r]
    have e3:(L.getD i AA.d).c.q=Q:=by rw[r]
    refine X0b _ ?_;(repeat' first|constructor|intro h)<;>refine Lm ?_
    all_goals(try simp only[Ir,Ix,Me]at*)
    all_goals(try first
     |exact B4)
    all_goals first
     |(have k:i<L.length:=by omega
       rw[st_at L i k m n];first|done|exact Ba)
     |(have k:i=L.length:=by omega
       rw[st_no (by rw[<-k];exact m)];first|done|rfl|trivial)
     |skip
   .have b9:¬((L.getD i AA.d).c.x=X/\(L.getD i AA.d).c.y=Y/\(L.getD i AA.d).c.q=Q):=λq=>n (by
     generalize (L.getD i AA.d).c=g at*;obtain⟨a,b,c⟩:=g;obtain⟨rfl,rfl,rfl⟩:=q;rfl)
    refine X0b _ ?_;(repeat' first|constructor|intro h)<;>refine Lm ?_
    all_goals(try simp only[Ir,Ix,Me]at*)
    all_goals(try first
     |exact B4)
    all_goals first
     |(have k:i=L.length:=by omega
       rw[st_no (by rw[<-k];exact m)];first|done|rfl|trivial)
     |(refine⟨i+1,⟨Eg,λj t=> ?_⟩,Ed,?_⟩
       .by_cases e:j=i
        .subst e;exact n
        .exact m j Dz
       .refine X0b _ ?_;(repeat' first|constructor|intro h)<;>refine Lm ?_
        all_goals first|exact Ba|skip)
     |skip
def f3c:AH
 | [x,.agg [.int .i64 X,.int .i64 Y,.int .u8 Q],y]=>match MZ x,AC.as y with
   |some (q,_,_,L),some (n,f)=>some (q/\AC.isL n f/\n<=100000,.int .i64 (if AP L ⟨X,Y,Q⟩=AC.lst n f then 1 else 0))
   |_,_=>none
 |_=>none
def FLy28:Fam:=⟨(Pt×Mv×List Stk)×(Int×Int×Int)×List Int,λ((p,r,L),(X,Y,Q),w)=>[.agg (Co p r L),.agg [.int .i64 X,.int .i64 Y,.int .u8 Q],.sl 1 w.length (AC.row w) none],λ((p,r,L),_,w)=>(prOK p r/\DV L)/\w.length<=100000,λ((_,_,L),(X,Y,Q),w)=>.int .i64 (if AP L ⟨X,Y,Q⟩=w then 1 else 0)⟩
def ILy28:(Pt×Mv×List Stk)×(Int×Int×Int)×List Int->Nat->Option Inv
 |((_,_,L),(X,Y,Q),w),5=>some {β:=Nat,ok:=λi=>(i<=w.length/\(AP L ⟨X,Y,Q⟩).length=w.length)/\∀j,j<i->(AP L ⟨X,Y,Q⟩).getD j 0=w.getD j 0,st:=λi=>⟨[⟨8,none,.int .i64 i⟩,⟨7,none,.sl 1 (AP L ⟨X,Y,Q⟩).length (AC.row (AP L ⟨X,Y,Q⟩)) none⟩,⟨2,none,.sl 1 w.length (AC.row w) none⟩],[]⟩,μ:=λi=>w.length-i}
 |_,_=>none
theorem f1b{a b:List Int}(h:a.length=b.length)(k:∀j,j<b.length->a.getD j 0=b.getD j 0):a=b:=by apply Nx h;intro j d c;have:=k j c;rw[Jg,Jg,Jh d,Jh c]at this;exact this
theorem pLy28:PS 43 f3c:=by
 refine con [(97,f1g)] (by simpa using pLa25) FLy28 ILy28 f3c ?_ ?_ Tryz.func43 E1 E1 E1 ?_
 .intro args pre s h a;unfold f3c at h;split at h
  .rename_i x X Y Q y;split at h
   .rename_i q p r L n f hx o;cases h;obtain⟨u,v,z⟩:=QQ hx a.1;exact⟨((p,r,L),(X,Y,Q),AC.lst n f),⟨u,Ee,JL (AC.as_leL o a.2.1),Jm⟩,⟨⟨v,z⟩,by rw[RT.lst_length];exact a.2.2⟩,rfl⟩
   .cases h
  .cases h
 .exact C1
 .rintro⟨⟨p,r,L⟩,⟨X,Y,Q⟩,w⟩ ⟨⟨_,b⟩,hw⟩;have gy:AA.isL L.length (AA.row L)/\CT (AA.lst L.length (AA.row L)):=by rw[RT.lst_row];exact⟨RT.isL_row AA L,b.1⟩
  have bj:(AP L ⟨X,Y,Q⟩).length<=100000:=by
   rcases Qp L ⟨X,Y,Q⟩with⟨s,hs,e⟩|e
   .unfold AP;cases hf:L.find? _ with
    |none=>simp
    |some t=>exact b.1.2 t (List.mem_of_find?_eq_some hf)
   .rw[e];simp
  have A:=MS L b.1;refine X0b _ ?_;(repeat' first|constructor|intro h)<;>refine Lm ?_
  all_goals(try simp only[RT.lst_row,Ir,Is]at*)
  all_goals(try first
   |exact A
   |omega
   |(rw[Jj (λe=>by rw[e]at h;omega)];done))
  refine⟨(0:Nat),⟨⟨Jw _,Dz⟩,λj d=>absurd d (K5 _)⟩,?_,?_⟩
  .exact X2d
  .intro i g;replace g:(i<=w.length/\(AP L ⟨X,Y,Q⟩).length=w.length)/\∀j,j<i->(AP L ⟨X,Y,Q⟩).getD j 0=w.getD j 0:=g;obtain⟨⟨i1,k⟩,l⟩:=g;refine X0b _ ?_;(repeat' first|constructor|intro h)<;>refine Lm ?_
   all_goals(try simp only[Ir,Is]at*)
   all_goals(try first
    |exact B4
    |(rw[Jj (λe=>by rename_i m;rw[e]at m;exact m rfl)];done)
    |(rw[Jj (λe=>by rw[e]at h;exact h rfl)];done)
    |(rw[Ji (f1b k λj d=>l j Dz)];done))
   all_goals first
    |(refine⟨i+1,⟨⟨Dz,k⟩,λj d=> ?_⟩,Ed,?_⟩
      .by_cases e:j=i
       .rw[e];assumption
       .exact l j Dz
      .refine X0b _ ?_;(repeat' first|constructor|intro h)<;>refine Lm ?_
       all_goals first|exact Ba|skip)
    |skip
theorem Wd{f:FuncId}{k d:AH}(h:PS f k)(hs:∀a b s,d a=some (b,s)->b->∃q,k a=some (q,s)/\q):PS f d:=⟨h.1,λA w a c b s g i j e l=>by obtain⟨q,m,n⟩:=hs a b s e l;exact h.2 A w a c q s g i j m n⟩
theorem Vo(p:Pt)(r:Mv)(L:List Stk):∃q,MZ (.agg (Co p r L))=some (q,p,r,L)/\(prOK p r->DV L->q):=by
 have b:(⟨p.W,p.H,FX p.l.length (Eo p.l)⟩:Pt)=p:=by rw[CE]
 have c:AA.lst L.length (AA.row L)=L:=RT.lst_row _ _;have a:∃q,MZ (.agg (Co p r L))=some (q,⟨p.W,p.H,FX p.l.length (Eo p.l)⟩,⟨r.t,r.x,r.y⟩,AA.lst L.length (AA.row L))/\(prOK p r->DV L->q):=⟨_,rfl,λd e=>by have:=JK d e;simp only[RT.lst_row,CE];exact this⟩
 rw[b,c]at a;exact a
def Fo:Pt:=⟨2,1,[]⟩
def Tw:Pt:=⟨1,1,[]⟩
def kFl2(L M:List Stk):AH
 | [.int .i64 W,.int .i64 H]=>if W=2/\H=1 then some (True,.agg (Co Fo CX L))else if W=1/\H=1 then some (True,.agg (Co Tw CX M))else none
 |_=>none
theorem pFl2:PS 13 (kFl2 (DT 2 1) (DT 1 1)):=Wd pFl28 λargs pre s h hp=>by
 unfold kFl2 at h;split at h
 .rename_i W H;split at h
  .rename_i e;obtain⟨rfl,rfl⟩:=e;cases h;exact⟨_,rfl,E4⟩
  .split at h
   .rename_i e;obtain⟨rfl,rfl⟩:=e;cases h;exact⟨_,rfl,E4⟩
   .cases h
 .cases h
abbrev SQ:=(Pt×Mv×List Stk)
def kDo2(z e:Int)(L:List Stk)(a b c d:SQ):AH
 | [x,.agg [.int .u8 k,.int .i64 C,.int .u8 s,.bool o]]=>
   if k=1/\C=1/\s=1/\o=true then some (x=.agg (Co Fo CX L),.tup [.agg (Co a.1 a.2.1 a.2.2),.int .i64 z])
   else if k=1/\C=1/\s=1/\o=false then some (x=.agg (Co Fo CX L),.tup [.agg (Co b.1 b.2.1 b.2.2),.int .i64 z])
   else if k=1/\C=1/\s=0/\o=true then some (x=.agg (Co Fo CX L),.tup [.agg (Co c.1 c.2.1 c.2.2),.int .i64 z])
   else if k=3/\C=1/\s=1/\o=true then some (x=.agg (Co Fo CX L),.tup [.agg (Co d.1 d.2.1 d.2.2),.int .i64 z])
   else if k=1/\C=0/\s=0/\o=true then some (x=.agg (Co Fo CX L),.tup [.agg (Co ⟨0,0,[]⟩ ⟨0,0,0⟩ []),.int .i64 e])
   else if k=1/\C=3/\s=0/\o=true then some (x=.agg (Co Fo CX L),.tup [.agg (Co ⟨0,0,[]⟩ ⟨0,0,0⟩ []),.int .i64 e])
   else none
 |_=>none
def Wq(k C s:Int)(o:Bool)(L:List Stk)(a:SQ):Prop:=CQ k C s o Fo CX L=0/\LM k C o Fo CX=a.1/\JE k C s Fo CX=a.2.1/\GP k C s o L=a.2.2
theorem d0y{k C s:Int}{o:Bool}{L:List Stk}{a:SQ}(h:Wq k C s o L a):SG k C s o Fo CX L=.tup [.agg (Co a.1 a.2.1 a.2.2),.int .i64 0]:=by obtain⟨b,c,d,e⟩:=h;unfold SG zP zR zL;rw[b,Ji rfl,Ji rfl,Ji rfl,c,d,e]
theorem f6k{k C s:Int}{o:Bool}{L:List Stk}(h:CQ k C s o Fo CX L=7):SG k C s o Fo CX L=.tup [.agg (Co ⟨0,0,[]⟩ ⟨0,0,0⟩ []),.int .i64 7]:=by unfold SG zP zR zL;rw[h,Jj E4,Jj E4,Jj E4]
theorem pDo2{L:List Stk}{a b c d:SQ}(l:DV L)(m:Wq 1 1 1 true L a)(n:Wq 1 1 1 false L b)(r:Wq 1 1 0 true L c)(u:Wq 3 1 1 true L d)(hi:CQ 1 0 0 true Fo CX L=7)(v:CQ 1 3 0 true Fo CX L=7):PS 7 (kDo2 0 7 L a b c d):=Wd pDo λargs pre s h i=>by
 obtain⟨q,e,w⟩:=Vo Fo CX L;have y:q:=w (by unfold prOK Fo CX;simp) l;have f:∀(k C t:Int) (o:Bool),0<=t->∃j,Ul [.agg (Co Fo CX L),.agg [.int .u8 k,.int .i64 C,.int .u8 t,.bool o]]=some (j,SG k C t o Fo CX L)/\j:=λk C t o z=>by refine⟨q/\0<=t,?_,y,z⟩;unfold Ul;simp only[e,Ks]
 unfold kDo2 at h;split at h
 .rename_i x k C t o;split at h
  .rename_i g;obtain⟨rfl,rfl,rfl,rfl⟩:=g;cases h;subst i;rw[<-d0y m];exact f _ _ _ _ E4
  .split at h
   .rename_i g;obtain⟨rfl,rfl,rfl,rfl⟩:=g;cases h;subst i;rw[<-d0y n];exact f _ _ _ _ E4
   .split at h
    .rename_i g;obtain⟨rfl,rfl,rfl,rfl⟩:=g;cases h;subst i;rw[<-d0y r];exact f _ _ _ _ E4
    .split at h
     .rename_i g;obtain⟨rfl,rfl,rfl,rfl⟩:=g;cases h;subst i;rw[<-d0y u];exact f _ _ _ _ E4
     .split at h
      .rename_i g;obtain⟨rfl,rfl,rfl,rfl⟩:=g;cases h;subst i;rw[<-f6k hi];exact f _ _ _ _ E4
      .split at h
       .rename_i g;obtain⟨rfl,rfl,rfl,rfl⟩:=g;cases h;subst i;rw[<-f6k v];exact f _ _ _ _ E4
       .cases h
 .cases h
def kLy1(y:Int):AH
 | [x,.agg [.int .i64 X,.int .i64 Y,.int .u8 Q],v]=>match MZ x,AC.as v with
   |some (q,_,_,L),some (n,f)=>some ((q/\AC.isL n f/\n<=100000)/\AP L ⟨X,Y,Q⟩=AC.lst n f,.int .i64 y)
   |_,_=>none
 |_=>none
theorem pLy1:PS 43 (kLy1 1):=Wd pLy28 λargs pre s h a=>by
 unfold kLy1 at h;split at h
 .rename_i x X Y Q y;split at h
  .rename_i q p r L n f b c;cases h;refine⟨_,?_,a.1⟩;unfold f3c;simp only[b,c];rw[Ji a.2]
  .cases h
 .cases h
def kLn2(M:List Stk):AH
 | [x]=>some (x=.agg (Co Tw CX M),.tup [.sl 2 2 (BX.row [(3,1),(4,0)]) (some 2),.int .i64 0])
 |_=>none
theorem pLn2{M:List Stk}(a:DV M)(b:CL Tw CX M=0)(c:EQ Tw CX=[(3,1),(4,0)]):PS 8 (kLn2 M):=Wd d0b λargs pre s h d=>by
 unfold kLn2 at h;split at h
 .cases h;subst d;obtain⟨q,e,f⟩:=Vo Tw CX M;refine⟨q,?_,f (by unfold prOK Tw CX;simp) a⟩;unfold VW;simp only[e,Ks];unfold c9n zL;rw[b,Ji rfl,c];rfl
 .cases h
structure L28 (L M:List Stk) (a b c d:SQ):Prop where
 sL:DV L
 sM:DV M
 pa:prOK a.1 a.2.1/\DV a.2.2
 pb:prOK b.1 b.2.1/\DV b.2.2
 pc:prOK c.1 c.2.1/\DV c.2.2
 pd:prOK d.1 d.2.1/\DV d.2.2
 a1:a.1.l.length=1/\(a.1.l.getD 0 d0).k=2
 b1:b.1.l.length=1/\(b.1.l.getD 0 d0).k=1
 c3:c.2.1=⟨4,2,0⟩
 a2:AP a.2.2 ⟨0,0,1⟩=[1,7]
 b2:AP b.2.2 ⟨0,0,1⟩=[7,1]
 c2:AP c.2.2 ⟨1,0,1⟩=[5,3]
 d2:AP d.2.2 ⟨0,0,0⟩=[0,1]
 d3:AP d.2.2 ⟨0,0,3⟩=[3,2]
 d4:AP d.2.2 ⟨0,-1,0⟩=[5]
 d5:AP d.2.2 ⟨0,-1,2⟩=[7]
theorem c57{L M:List Stk}{a b c d:SQ}{z n y:Int}(I:PS 13 (kFl2 L M))(o:PS 7 (kDo2 z n L a b c d))(J:PS 43 (kLy1 y))(K:PS 8 (kLn2 M))(N:z=0)(q:n=7)(O:y=1)(F:L28 L M a b c d):PS 10 SL:=by
 obtain⟨r,P,Q⟩:=a;obtain⟨s,R,S⟩:=b;obtain⟨T,U,V⟩:=c;obtain⟨W,rd,Ld⟩:=d;obtain⟨sL,sM,g,kb,j,m,e,f,u,w,x,A,B,C,E,G⟩:=F;dsimp only at g kb j m e f u w x A B C E G;refine LV {l:=[(13,kFl2 L M),(7,kDo2 z n L (r,P,Q) (s,R,S) (T,U,V) (W,rd,Ld)),(43,kLy1 y),(44,d94),(8,kLn2 M)],fz:=λd=>Nat.beq d 116||Nat.beq d 122||Nat.beq d 129||Nat.beq d 143||Nat.beq d 150||Nat.beq d 157||Nat.beq d 164} ⟨by simpa using⟨I,o,J,pMi28,K⟩,E2,E2⟩ ⟨Unit,λ_=>[],λ_=>True,λ_=>.bool true⟩ (λ_ _=>none) SL ?_ ?_ Tryz.func10 E1 E1 E1 ?_
 .intro args pre t h hp;unfold SL at h;split at h
  .cases h;exact⟨(),Jm,Jm,rfl⟩
  .cases h
 .intro i;show 0<=_;decide
 .rintro⟨⟩ _;replace g:=JK g.1 g.2;replace kb:=JK kb.1 kb.2;replace j:=JK j.1 j.2;replace m:=JK m.1 m.2;have H:HY 1 1=(4,2,0):=rfl;have X:(r.l.length:Int)=1:=by rw[e.1];rfl
  have Y:(s.l.length:Int)=1:=by rw[f.1];rfl
  have ak:(r.l.getD (Int.toNat 0) d0).k=2:=e.2;have Z:(s.l.getD (Int.toNat 0) d0).k=1:=f.2;have d1:decide ((1:Int)=0)=false:=rfl;refine X0a _ ?_;(repeat' first|constructor|intro h)<;>refine Lm ?_
  all_goals subst N q O
  all_goals(try simp only[RT.lst_row,CE]at*)
  all_goals first
   |(with_reducible refine⟨⟨?_,?_,E4⟩,?_⟩)
   |(with_reducible refine λ_=>⟨⟨?_,?_,E4⟩,?_⟩)
   |exact λ_=>⟨Dz,Dz⟩
   |(simp only[X,Y,ak,Z,u,H,d1,decide_true,Bool.not_true,N1,Me,Bool.false_eq_true]at*;done)
   |(simp[e.1,e.2,f.1,f.2,u,H];done)
   |skip
  all_goals first
   |(with_reducible assumption)
   |(rw[w];rfl)
   |(rw[x];rfl)
   |(rw[A];rfl)
   |(rw[B];rfl)
   |(rw[C];rfl)
   |(rw[E];rfl)
   |(rw[G];rfl)
   |(intro i v
     match i,v with
     |0,_=>exact .inl rfl
     |1,_=>exact .inl rfl)
   |(intro i v
     match i,v with
     |0,_=>exact .inl rfl)
   |skip
def Sb(k C s:Int)(o:Bool):SQ:=(LM k C o Fo CX,JE k C s Fo CX,GP k C s o (DT 2 1))
theorem f0u{k C s:Int}{o:Bool}(h:CQ k C s o Fo CX (DT 2 1)=0):Wq k C s o (DT 2 1) (Sb k C s o):=⟨h,rfl,rfl,rfl⟩
theorem in21:DV (DT 2 1):=(d4g (W:=2) (H:=1) (B:=1) E4 Dz).stIn
theorem in11:DV (DT 1 1):=(d4g (W:=1) (H:=1) (B:=1) E4 Dz).stIn
theorem f0w{k C s:Int}{o:Bool}(h:CQ k C s o Fo CX (DT 2 1)=0)(hs:0<=s):prOK (Sb k C s o).1 (Sb k C s o).2.1/\DV (Sb k C s o).2.2:=by have:=do_res (k:=k) (C:=C) (s:=s) (o:=o) (p:=Fo) (r:=CX) (L:=DT 2 1) (by unfold prOK Fo CX;simp) in21 hs;rw[h]at this;exact this
theorem l28_a:CQ 1 1 1 true Fo CX (DT 2 1)=0:=E1
theorem l28_b:CQ 1 1 1 false Fo CX (DT 2 1)=0:=E1
theorem l28_c:CQ 1 1 0 true Fo CX (DT 2 1)=0:=E1
theorem l28_d:CQ 3 1 1 true Fo CX (DT 2 1)=0:=E1
theorem l28_i:CQ 1 0 0 true Fo CX (DT 2 1)=7:=E1
theorem l28_j:CQ 1 3 0 true Fo CX (DT 2 1)=7:=E1
theorem l28_e:CL Tw CX (DT 1 1)=0:=E1
theorem l28:L28 (DT 2 1) (DT 1 1) (Sb 1 1 1 true) (Sb 1 1 1 false) (Sb 1 1 0 true) (Sb 3 1 1 true):=
 ⟨in21,in11,f0w l28_a E4,f0w l28_b E4,f0w l28_c E4,f0w l28_d E4,⟨E1,E1⟩,⟨E1,E1⟩,E1,E1,E1,E1,E1,E1,E1,E1⟩
theorem c8j:PS 10 SL:=c57 pFl2 (pDo2 in21 (f0u l28_a) (f0u l28_b) (f0u l28_c) (f0u l28_d) l28_i l28_j) pLy1 (pLn2 in11 l28_e E1) rfl rfl rfl l28
section
open Go.RowKit Go.ChangeShapes Go.WideShapes Go.ChangeAt
abbrev g4m:List (String×DataW Unit):=[("crimp/moves.turns",Rows.laid_crimp_moves_turns),("crimp/cells.quarters",Rows.laid_crimp_cells_quarters)]
theorem b47{W:World}(h:laidMetH Tryz.prog g4m W):∀g t,QA g=some t->t.pure=true/\D W (λ_=>False) BT t (.pointer (some ⟨g,0,none⟩)):=by
 have j:∀b,¬(λ_:Nat=>False) b:=λ_ h=>h;rw[Go.MakeChecks.laidMetH_plain _ _ _ E1]at h;obtain⟨ps,⟨g0,t0,cs0,f0,p0,q0,c,d,e,k,⟨g1,t1,cs1,f1,p1,q1,l,i,n,o,_,_⟩,_⟩,_,_⟩:=h;have r0:=b64 (A:=λ_=>False) j (sz:=4) (m:=8) (f:=Qz) c d e k (g0:=0) E1 E1 E1 Dz E1;have q:=b64 (A:=λ_=>False) j (sz:=17) (m:=4) (f:=Xi) l i n o (g0:=1) E1 E1 E1 Dz E1;intro g t a;unfold QA at a;split at a
 .cases a;exact r0
 .cases a;exact q
 .cases a
section
variable{H:Type}{enc:TypeId × Value->H}{w:World}{base:Nat}{sp:Nat->Bool}{held:Bool}{fuel:Nat}{cs:List Value}{x:DataW H × List MemPlace}
theorem arg_u8{v:Value}{d:DataW H}{ps:List MemPlace}(a:Value.okWide Tryz.prog w .any base 5 v)(h:DataW.Trod enc Tryz.prog w 0 sp held 5 v d ps):∃n,AD .u8 n/\v=.int .u8 n:=by obtain⟨n,e,_,_,b⟩:=open_int Tryz.underlying5 a h;exact⟨n,c3v b,e⟩
end
section
variable{H:Type}{enc:TypeId × Value->H}{w:World}{base:Nat}{sp:Nat->Bool}{held:Bool}{fuel:Nat}{cs:List Value}{x:DataW H × List MemPlace}
theorem rd_u8s(h:DataW.trod enc Tryz.prog w base sp held fuel 58 cs=some x):∃p:Int×Int×Int,(AD .u8 p.1/\AD .u8 p.2.1/\AD .u8 p.2.2)/\cs=[.int .u8 p.1,.int .u8 p.2.1,.int .u8 p.2.2]:=by
 obtain⟨xs,m,_,_,g,r9,hx⟩:=DataW.trod_array Tryz.underlying58 h;have g:cs.length=3:=g.trans E1;match cs,g with
 | [i,j,k],_=>
   have d:=hx 0 Dz;have e:=hx 1 Dz;have f:=hx 2 Dz;rw[Jh Dz]at d e f;replace d:DataW.trod enc Tryz.prog w base sp held m 5 [i]=some _:=d;replace e:DataW.trod enc Tryz.prog w base sp held m 5 [j]=some _:=e;replace f:DataW.trod enc Tryz.prog w base sp held m 5 [k]=some _:=f;obtain⟨a,l,n⟩:=Sl Tryz.underlying5 d;obtain⟨b,o,q⟩:=Sl Tryz.underlying5 e;obtain⟨c,r,s⟩:=Sl Tryz.underlying5 f;cases l;cases o;cases r;exact⟨(a,b,c),⟨n,q,s⟩,rfl⟩
theorem rd_s(h:DataW.trod enc Tryz.prog w base sp held fuel 24 cs=some x):∃(q:Int×Int×List (Int×Int×Int)) (v:Value),Ob q.1 q.2.1 q.2.2/\cs=[.int .u8 q.1,.int .u8 q.2.1,v]/\D w (λ_=>False) BT (.sl 3 q.2.2.length (FH.row q.2.2) none) v:=by
 obtain⟨e,n⟩:=b71 Tryz.underlying24 h;have e:cs.length=3:=e.trans E1;match cs,e with
 | [u,z,o],_=>
   simp only[Jv,forall_eq_or_imp,List.not_mem_nil,false_implies,implies_true,and_true]at n;obtain⟨⟨B,C,f⟩,⟨E,F,g⟩,⟨G,H,i⟩⟩:=n;replace f:DataW.trod enc Tryz.prog w base sp held B 5 [u]=some C:=f;replace g:DataW.trod enc Tryz.prog w base sp held E 5 [z]=some F:=g;replace i:DataW.trod enc Tryz.prog w base sp held G 22 [o]=some H:=i;obtain⟨a,I,r⟩:=Sl Tryz.underlying5 f;obtain⟨b,J,t⟩:=Sl Tryz.underlying5 g;cases I;cases J;obtain⟨l,v,K,_,L,M⟩:=rd_sl FH.d FH.sv (λq=>AD .u8 q.1/\AD .u8 q.2.1/\AD .u8 q.2.2) Tryz.underlying22 (sz:=3) E1 Dz (A:=λ_=>False) (λ_ h=>h) (λm R y N=>by
    obtain⟨q,k,rfl⟩:=rd_u8s N;refine⟨q,k,rfl,rfl,λv c=> ?_,λj s v hs c=> ?_⟩
    .simp at c;rcases c with rfl|rfl|rfl<;>rfl
    .match j,hs,c with
     |0,hs,c=>simp[FH]at hs c;subst hs c;exact .int
     |1,hs,c=>simp[FH]at hs c;subst hs c;exact .int
     |2,hs,c=>simp[FH]at hs c;subst hs c;exact .int) i
   cases K;simp only[AD]at r t;refine⟨(a,b,l),o,⟨r,t,λq k=> ?_⟩,rfl,L⟩;have:=M q k;simp only[AD]at this;unfold QX;omega
theorem arg_s{v:Value}{d:DataW H}{ps:List MemPlace}(b:Value.okWide Tryz.prog w .any base 24 v)(h:DataW.Trod enc Tryz.prog w 0 sp held 24 v d ps):∃q:Int×Int×List (Int×Int×Int),Ob q.1 q.2.1 q.2.2/\D w (λ_=>False) BT (.agg (KA q.1 q.2.1 q.2.2)) v:=by
 obtain⟨fuel,h⟩:=h;obtain⟨q,u,c,f,g⟩:=rd_s h;unfold Value.okWide at b;rw[Tryz.underlying24]at b;obtain⟨j,rfl,_,_⟩:=b;refine⟨q,c,?_⟩;have e:j=[.int .u8 q.1,.int .u8 q.2.1,u].toArray:=by apply Array.ext';exact f
 rw[e];refine .agg _ rfl (λi s v hs a=> ?_);match i,hs,a with
 |0,hs,a=>simp[KA]at hs a;subst hs a;exact .int
 |1,hs,a=>simp[KA]at hs a;subst hs a;exact .int
 |2,hs,a=>simp[KA]at hs a;subst hs a;exact g
theorem g36(h:DataW.trod enc Tryz.prog w base sp held fuel 29 cs=some x):∃p:Int×Int×Int×Bool,(AD .u8 p.1/\AD .i64 p.2.1/\AD .u8 p.2.2.1)/\cs=[.int .u8 p.1,.int .i64 p.2.1,.int .u8 p.2.2.1,.bool p.2.2.2]:=by
 obtain⟨d,k⟩:=b71 Tryz.underlying29 h;have d:cs.length=4:=d.trans E1;match cs,d with
 | [l,m,q,r],_=>
   simp only[Jv,forall_eq_or_imp,List.not_mem_nil,false_implies,implies_true,and_true]at k;obtain⟨⟨s,t,e⟩,⟨u,v,f⟩,⟨y,z,g⟩⟩:=k;replace e:DataW.trod enc Tryz.prog w base sp held s 27 [l,m]=some t:=e;replace f:DataW.trod enc Tryz.prog w base sp held u 5 [q]=some v:=f;replace g:DataW.trod enc Tryz.prog w base sp held y 4 [r]=some z:=g;obtain⟨_,n⟩:=b71 Tryz.underlying27 e;simp only[Jv,forall_eq_or_imp,List.not_mem_nil,false_implies,implies_true,and_true]at n;obtain⟨⟨A,B,i⟩,⟨C,E,j⟩⟩:=n;replace i:DataW.trod enc Tryz.prog w base sp held A 25 [l]=some B:=i;replace j:DataW.trod enc Tryz.prog w base sp held C 3 [m]=some E:=j;obtain⟨a,F,G⟩:=Sl Tryz.underlying25 i;obtain⟨b,H,I⟩:=Sl Tryz.underlying3 j;obtain⟨c,J,K⟩:=Sl Tryz.underlying5 f;obtain⟨o,L⟩:=g3p Tryz.underlying4 g;cases F;cases H;cases J;cases L;exact⟨(a,b,c,o),⟨G,I,K⟩,rfl⟩
theorem c7w{v:Value}{d:DataW H}{ps:List MemPlace}(b:Value.okWide Tryz.prog w .any base 29 v)(h:DataW.Trod enc Tryz.prog w 0 sp held 29 v d ps):∃p:Int×Int×Int×Bool,(AD .u8 p.1/\AD .i64 p.2.1/\AD .u8 p.2.2.1)/\D w (λ_=>False) BT (.agg [.int .u8 p.1,.int .i64 p.2.1,.int .u8 p.2.2.1,.bool p.2.2.2]) v:=by
 obtain⟨fuel,h⟩:=h;obtain⟨p,c,f⟩:=g36 h;unfold Value.okWide at b;rw[Tryz.underlying29]at b;obtain⟨g,rfl,_,_⟩:=b;refine⟨p,c,?_⟩;have e:g=[.int .u8 p.1,.int .i64 p.2.1,.int .u8 p.2.2.1,.bool p.2.2.2].toArray:=by apply Array.ext';exact f
 rw[e];refine .agg _ rfl (λi s v hs a=> ?_);match i,hs,a with
 |0,hs,a=>simp at hs a;subst hs a;exact .int
 |1,hs,a=>simp at hs a;subst hs a;exact .int
 |2,hs,a=>simp at hs a;subst hs a;exact .int
 |3,hs,a=>simp at hs a;subst hs a;exact .bool
end
end
end Go.Proofs.YtlffhjfkaepimaaGreatDoor.V
