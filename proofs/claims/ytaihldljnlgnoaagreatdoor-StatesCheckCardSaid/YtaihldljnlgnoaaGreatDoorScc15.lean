/-
  Parts of the proof: Y18 T4 Y30 Y31 D35 D36 D37 D29 D31 C17 A44 A36 A29 A37 A40. Conditions: none.
-/
import Derived.Test.YtaihldljnlgnoaaGreatDoorScc5
import Derived.Test.YtaihldljnlgnoaaGreatDoorScc7
import Derived.Test.YtaihldljnlgnoaaGreatDoorScc8
import Derived.Test.YtaihldljnlgnoaaGreatDoorScc9
import Derived.Test.YtaihldljnlgnoaaGreatDoorScc10
import Derived.Test.YtaihldljnlgnoaaGreatDoorScc11
import Derived.Test.YtaihldljnlgnoaaGreatDoorScc13
import Derived.Test.YtaihldljnlgnoaaGreatDoorScc14
set_option maxRecDepth 100000
set_option maxHeartbeats 40000000
namespace Go.Proofs.YtaihldljnlgnoaaGreatDoor.V
open Go
def DP:RT (Int×Int×Int):=⟨3,λx=>[.int .u8 x.1,.int .u8 x.2.1,.int .u8 x.2.2],λl=>match l with
 | [.int _ a,.int _ b,.int _ c]=>(a,b,c)
 |_=>(0,0,0),(0,0,0),λ_=>rfl⟩
def KS(w h:Int)(l:List (Int×Int×Int)):List SV:=[.int .u8 w,.int .u8 h,.sl 3 l.length (DP.row l) none]
def Py(n:Int):Prop:=0<=n/\n<=255
def Qe(w h:Int)(l:List (Int×Int×Int)):Prop:=Py w/\Py h/\∀f∈l,Py f.1/\Py f.2.1/\Py f.2.2
def asS:SV->Option (Prop×Int×Int×List (Int×Int×Int))
 |.agg [.int .u8 w,.int .u8 h,x]=>(DP.as x).map λq=>(DP.isL q.1 q.2/\Qe w h (DP.lst q.1 q.2),w,h,DP.lst q.1 q.2)
 |_=>none
theorem asS_le{s:SV}{q:Prop}{w h:Int}{l:List (Int×Int×Int)}(k:asS s=some (q,w,h,l))(a:q):s.le2 (.agg (KS w h l))/\Qe w h l:=by
 unfold asS at k;split at k
 .rename_i w' h' x;simp only[Ic]at k;obtain⟨v,b,rfl,rfl,rfl,rfl⟩:=k;refine⟨?_,a.2⟩;have:=DP.as_leL b a.1;simp only[SV.le2,SV.le1,BH,KS];exact⟨E1,E1,this,J5⟩
 .cases k
def Uo(a r:SV):AM
 | [x]=>some (x=a,r)
 |_=>none
def Te(a b r:SV):AM
 | [x,y]=>some (x=a/\y=b,r)
 |_=>none
theorem f4z{f:FuncId}{k:AM}{a r:SV}(h:PS f k)(e:∃q,k [a]=some (q,r)/\q):PS f (Uo a r):=c6z h λargs pre s b c=>by
 unfold Uo at b;split at b
 .cases b;subst c;exact e
 .cases b
theorem f4b{f:FuncId}{k:AM}{a b r:SV}(h:PS f k)(e:∃q,k [a,b]=some (q,r)/\q):PS f (Te a b r):=c6z h λargs pre s c d=>by
 unfold Te at c;split at c
 .cases c;obtain⟨rfl,rfl⟩:=d;exact e
 .cases c
def PR(xs:List SV)(r:SV):AM:=λa=>some (a=xs,r)
theorem top_of{F:Fam}{f:FuncId}(hf:∃fn,Tryz.prog.funcs[f]?=some fn/\(fn.name== "runtime.NumGoroutine")=false/\fn.body.isNone=false)(h:∀i,F.pre i->PS f (PR (F.args i) (.bool true))):PS f (Tr F):=⟨hf,λA w args vals pre s hA hg hD hk hp=>by
 unfold Tr at hk;split at hk
 .rename_i Zz;obtain⟨i,hi,rfl⟩:=Zz;cases hk;exact(h i hi).2 A w _ vals _ _ hA hg hD rfl rfl
 .cases hk⟩
def F1(xs:List SV)(r:SV):Fam:=⟨Unit,λ_=>xs,λ_=>True,λ_=>r⟩
theorem law1{xs:List SV}{r:SV}(h:BM xs xs):RQ (F1 xs r) (PR xs r):=λzs p s a b=>by unfold PR at a;cases a;subst b;exact⟨(),h,J5,rfl⟩
theorem asS_sx(w h:Int)(l:List (Int×Int×Int))(hx:Qe w h l):∃q,asS (.agg (KS w h l))=some (q,w,h,l)/\q:=by
 have a:DP.lst l.length (DP.row l)=l:=RT.lst_row _ _;have b:∃q,asS (.agg (KS w h l))=some (q,w,h,DP.lst l.length (DP.row l))/\q:=⟨_,rfl,DP.isL_row l,by rw[a];exact hx⟩
 rw[a]at b;exact b
section
variable{p:Pt}{r:Mv}{L:List Stk}
structure StS (p:Pt) (r:Mv) (L:List Stk):Prop where
 X:SOK (p,r,L) 5
 pr:prOK p r
 sn:FK L
 g:StG p r L (AD p r) 971
 ck:FS p r L=0
 bo:CH p r=0
theorem sts_of{w h:Int}{l:List (Int×Int×Int)}(e:LH w h l=(p,r,L)):StS p r L:=by have X:=sOf_ok w h l;rw[e]at X;have a:QB 5=971:=Dy;have g:=X.g;rw[a]at g;exact⟨X,X.prOK (J9 _),g.stIn,g,X.chk (J9 _),(g.places Dv).1⟩
end
structure LsH (L:List Stk) (n:Nat):Prop where
 sk:FN L
 wide:∀i,i<L.length->(-4096<=(L.getD i AA.d).c.x/\(L.getD i AA.d).c.x<=4096)/\(-4096<=(L.getD i AA.d).c.y/\(L.getD i AA.d).c.y<=4096)/\(L.getD i AA.d).c.q<=3
 lt:∀i,0<i->i<L.length->UE ((L.getD (i-1) AA.d).c.x,(L.getD (i-1) AA.d).c.y,(L.getD (i-1) AA.d).c.q) ((L.getD i AA.d).c.x,(L.getD i AA.d).c.y,(L.getD i AA.d).c.q)=1
 ne:∀i,i<L.length->0<(L.getD i AA.d).l.length
 rg:∀i,i<L.length->∀k,k<(L.getD i AA.d).l.length->0<=(L.getD i AA.d).l.getD k 0/\(L.getD i AA.d).l.getD k 0<n
 nd:(BG L).Nodup
 len:(BG L).length=n
 n:n<=1024
def RY(l:List Int)(j:Nat):List SV:=[.int .i64 (if(j:Int)∈l then 1 else 0)]
def Wa(n:Nat)(l:List Int):List Blk:=[.row 3 1 n (RY l) none]
def Vd(L:List Stk)(n:Nat)(a:List Entry):List Entry:=a++[⟨5,none,.osl 0⟩,⟨1,none,.int .i64 n⟩,⟨0,none,DJ L⟩]
def ILs25(L:List Stk)(n:Nat):Nat->Option Inv
 |3=>some {β:=Nat,ok:=λi=>i<=L.length,st:=λi=>⟨Vd L n [⟨6,none,.int .i64 i⟩],Wa n []⟩,μ:=λi=>L.length-i,sub:=λi=>some fun
  |9=>some {β:=Nat,ok:=λk=>i<L.length/\k<=(L.getD i AA.d).l.length,st:=λk=>⟨Vd L n [⟨8,none,.int .i64 k⟩,⟨6,none,.int .i64 i⟩],Wa n []⟩,μ:=λk=>(L.getD i AA.d).l.length-k}
  |_=>none}
 |16=>some {β:=Nat,ok:=λi=>i<=L.length,st:=λi=>⟨Vd L n [⟨11,none,.int .i64 i⟩,⟨10,none,.int .i64 (FJ L i 0).length⟩],Wa n (FJ L i 0)⟩,μ:=λi=>L.length-i,sub:=λi=>some fun
  |19=>some {β:=Nat,ok:=λk=>i<L.length/\k<=(L.getD i AA.d).l.length,st:=λk=>⟨Vd L n [⟨12,none,.int .i64 k⟩,⟨11,none,.int .i64 i⟩,⟨10,none,.int .i64 (FJ L i k).length⟩],Wa n (FJ L i k)⟩,μ:=λk=>(L.getD i AA.d).l.length-k}
  |_=>none}
 |_=>none
theorem ls_nd{L:List Stk}(h:(BG L).Nodup){i k:Nat}(hi:i<L.length)(a:k<(L.getD i AA.d).l.length):(L.getD i AA.d).l.getD k 0∉FJ L i k:=by obtain⟨m,b⟩:=b9x (k:=k+1) hi;rw[b,b47 a,M8,N5]at h;exact λq=>h.2.2 _ q _ Dx rfl
theorem f7c{l:List Int}{v:Int}(h:v∉l)(h0:0<=v)(j:Nat):DC (decide (j=v.toNat)) (over (RY l v.toNat) 0 [.int .i64 ((if((v.toNat:Nat):Int)∈l then 1 else 0)+1)]) (RY l j)=RY (l++[v]) j:=by
 have e:((v.toNat:Nat):Int)=v:=Dv;by_cases q:j=v.toNat
 .subst q;rw[Jf rfl,e,J3 h];show [SV.int .i64 (0+1)]=RY (l++[v]) v.toNat
  unfold RY;rw[e,Iz Dx];rfl
 .have a:¬(j:Int)=v:=Dv;rw[Ji q];show RY l j=RY (l++[v]) j;have b:((j:Int)∈l++[v])=((j:Int)∈l):=by simp[a]
  unfold RY;simp only[b]
theorem pLs25{L:List Stk}{n:Nat}(X:LsH L n){z:Int}(hz:z=0):PS 58 (PR [DJ L,.int .i64 n] (.int .i64 z)):=by
 refine con [(92,f1h)] (by simpa using pBf25) (F1 [DJ L,.int .i64 n] (.int .i64 z)) (λ_=>ILs25 L n) (PR [DJ L,.int .i64 n] (.int .i64 z)) (law1 (by simp[DJ,BM,SV.le2,SV.le1,SV.le0,GL,FU])) ?_ Tryz.func58 Dw Dw Dw ?_
 .exact Bz
 .rintro⟨⟩ _;obtain⟨u,v,G,H,C,I,E,hn⟩:=X;have hl:=u.1;have w:∀i k,i<L.length->(FJ L i k).length<=n:=λi k f=>by
   obtain⟨m,J⟩:=b9x (k:=k) f;rw[J,Jx]at E;omega
  refine X0 _ ?_;(repeat' first|constructor|intro h)<;>refine Lm ?_
  all_goals(try simp only[Jk]at*)
  all_goals(try first
   |omega
   |exact⟨Dv,Dv,Qz Dw Dv Dv,Dv⟩)
  refine⟨(0:Nat),Je _,?_,?_⟩
  .exact X2h
  .intro i f;replace f:i<=L.length:=f;have hwi:=v i;have U8:0<i->i<L.length->UE ((L.getD ((i:Int)-1).toNat AA.d).c.x,(L.getD ((i:Int)-1).toNat AA.d).c.y,(L.getD ((i:Int)-1).toNat AA.d).c.q) ((L.getD i AA.d).c.x,(L.getD i AA.d).c.y,(L.getD i AA.d).c.q)=1:=λK M=>by
    have e:((i:Int)-1).toNat=i-1:=Dv;rw[e];exact G i K M
   have W4:=H i;have A:=Pw u i;refine X0 _ ?_;(repeat' first|constructor|intro h)<;>refine Lm ?_
   all_goals(try simp only[Ia,If,Ii]at*)
   all_goals(try first
    |exact Be
    |(intro q;omega)
    |(intro q;simp only[AE];omega)
    |exact A7
    |exact λq=>⟨Dv,Dv⟩)
   .have b:i<L.length:=Dv;refine⟨(0:Nat),⟨b,Je _⟩,?_,?_⟩
    .exact X2h
    .intro k g;replace g:i<L.length/\k<=(L.getD i AA.d).l.length:=g;have r:k<(L.getD i AA.d).l.length->0<=(L.getD i AA.d).l.getD k AC.d/\(L.getD i AA.d).l.getD k AC.d<n:=C i b k;refine X0 _ ?_;(repeat' first|constructor|intro h)<;>refine Lm ?_
     all_goals(try simp only[Ia,Ii]at*)
     all_goals first
      |exact Aw
      |(refine⟨k+1,⟨b,Dv⟩,Eu,?_⟩
        all_goals refine X0 _ ?_;(repeat' first|constructor|intro h)<;>refine Lm ?_
        all_goals first|exact Aj|skip)
      |(refine⟨i+1,Ea,E7,?_⟩
        all_goals refine X0 _ ?_;(repeat' first|constructor|intro h)<;>refine Lm ?_
        all_goals first|exact Aj|skip)
      |skip
   .refine⟨(0:Nat),Je _,?_,?_⟩
    .exact X2h
    .intro i f;replace f:i<=L.length:=f;have A:=Pw u i;have N:=c5g L;refine X0 _ ?_;(repeat' first|constructor|intro h)<;>refine Lm ?_
     all_goals(try simp only[Ia]at*)
     all_goals(try first
      |exact Be)
     .have b:i<L.length:=Dv;refine⟨(0:Nat),⟨b,Je _⟩,?_,?_⟩
      .refine X0 _ ?_;(repeat' first|constructor|intro h)<;>refine Lm ?_
       all_goals first|rfl|exact Ae|exact B8|exact A4|omega|skip
      .intro k g;replace g:i<L.length/\k<=(L.getD i AA.d).l.length:=g;have r:k<(L.getD i AA.d).l.length->0<=(L.getD i AA.d).l.getD k AC.d/\(L.getD i AA.d).l.getD k AC.d<n:=C i b k;have Y0:=w i k b;have s:k<(L.getD i AA.d).l.length->(L.getD i AA.d).l.getD k AC.d∉FJ L i k:=ls_nd I b;have O:k<(L.getD i AA.d).l.length->FJ L i (k+1)=FJ L i k++[(L.getD i AA.d).l.getD k AC.d]:=b47;have B:=c68 b;refine X0 _ ?_;(repeat' first|constructor|intro h)<;>refine Lm ?_
       all_goals(try simp only[Ia]at*)
       all_goals(try first
        |exact Be)
       all_goals first
        |(have o:k<(L.getD i AA.d).l.length:=by omega
          have r:=r o;have s:=s o;have P:((((L.getD i AA.d).l.getD k AC.d).toNat:Nat):Int)=(L.getD i AA.d).l.getD k AC.d:=Dv;have F:(if((((L.getD i AA.d).l.getD k AC.d).toNat:Nat):Int)∈FJ L i k then(1:Int)else 0)=0:=by rw[P,J3 s]
          first
           |exact Be
           |(show ((L.getD i AA.d).l.getD k AC.d).toNat<n;omega)
           |(rw[F];simp only[AE];omega)
           |exact A7
           |(exfalso
             have t:=‹(1:Int)<_›;rw[F]at t;simp at t
             done)
           |(refine⟨k+1,⟨b,Dv⟩,Eu,?_⟩
             dsimp only[Wa,Vd];rw[O o,Jx,L1];all_goals refine X0 _ ?_;(repeat' first|constructor|intro h)<;>refine Lm ?_
             all_goals first|exact A6|exact λj _=>f7c s r.1 j|exact A4|exact Be|skip)
           |skip)
        |(have o:k=(L.getD i AA.d).l.length:=by omega
          subst o;first
           |exact A7
           |(refine⟨i+1,Ea,E7,?_⟩
             dsimp only[Wa,Vd];rw[<-B];all_goals refine X0 _ ?_;(repeat' first|constructor|intro h)<;>refine Lm ?_
             all_goals first|exact Aj|skip)
           |skip)
        |skip
     .exfalso;have e:i=L.length:=Dv;have t:=‹((FJ L i 0).length:Int)<(n:Int)›;rw[e,N,E]at t;omega
section
variable (p:Pt) (r:Mv) (L:List Stk)
def Vf(m:Nat):Cl:=DD (L.getD (m/3) AA.d).c.x (L.getD (m/3) AA.d).c.y (L.getD (m/3) AA.d).c.q ((m%3:Nat):Int)
def HL(m:Nat):List Wt:=DT p r L (L.getD (m/3) AA.d).c (Vf L m)
def UH(m:Nat):List Wt:=DT p r L (Vf L m) (L.getD (m/3) AA.d).c
def KG(m:Nat):Bool:=decide (Qw (HL p r L m) (UH p r L m)=1)
def Ug(a:List Wt)(j:Nat):Bool:=(!decide (JA a j=0)&&decide (GH a j<j))&&decide (SM (JA a j) (decide ((AD p r (a.getD j CL.d).1).t<4))=0)
def WU(m:Nat):Bool:=(List.range (HL p r L m).length).any (Ug p r (HL p r L m))
def Pm(n:Nat):Bool:=(List.range n).any (WU p r L)
def Sg(n:Nat)(j:Nat):Bool:=Pm p r L n||(List.range j).any (Ug p r (HL p r L n))
def NN:Int:=if(List.range (3*L.length)).any (KG p r L)=true then 12 else if Pm p r L (3*L.length)=true then 13 else 0
def WK(b:Bool):Int:=if b=true then 13 else 0
end
section
variable{p:Pt}{r:Mv}{L:List Stk}{n j:Nat}
theorem erI_0:Sg p r L n 0=Pm p r L n:=by unfold Sg;simp
theorem f2e:Sg p r L n (j+1)=(Sg p r L n j||Ug p r (HL p r L n) j):=by unfold Sg;rw[Mj,N2];simp[Bool.or_assoc]
theorem g1m:Sg p r L n (HL p r L n).length=Pm p r L (n+1):=by unfold Sg Pm;rw[Mj,N2];simp[WU]
theorem st_in(X:MtH p r L)(c:Cl):(AF L c).length<=1024/\∀v∈AF L c,AU p v:=by
 unfold AF;cases hf:L.find? (λs=>decide (s.c=c))with
 |none=>exact⟨Je _,λv a=>nomatch a⟩
 |some t=>exact⟨X.len t (M4 hf),X.id t (M4 hf)⟩
theorem c8h(X:MtH p r L)(c d:Cl):(DT p r L c d).length<=3072:=by have h1:=@f44 p (AD p r) d (AF L c) (3*(AF L c).length);have h2:=(st_in X c).1;unfold DT;omega
theorem mt_id(X:MtH p r L){c d:Cl}{x:Wt}(h:x∈DT p r L c d):x.1∈AF L c/\AU p x.1:=by
 unfold DT ME at h;obtain⟨m,b,e⟩:=Me.1 h;have mr:=Jn.1 b;unfold Nm at e;split at e
 .cases e;have a:(AF L c).getD (m/3) 0∈AF L c:=BW Dv;exact⟨a,(st_in X c).2 _ a⟩
 .cases e
theorem XU{i k:Nat}(hk:k<3):Vf L (3*i+k)=DD (L.getD i AA.d).c.x (L.getD i AA.d).c.y (L.getD i AA.d).c.q k/\HL p r L (3*i+k)=DT p r L (L.getD i AA.d).c (DD (L.getD i AA.d).c.x (L.getD i AA.d).c.y (L.getD i AA.d).c.q k)/\UH p r L (3*i+k)=DT p r L (DD (L.getD i AA.d).c.x (L.getD i AA.d).c.y (L.getD i AA.d).c.q k) (L.getD i AA.d).c:=by have a:(3*i+k)/3=i:=Dv;have b:(3*i+k)%3=k:=Dv;unfold HL UH Vf;rw[a,b];exact Ce
structure ErH (p:Pt) (r:Mv) (L:List Stk):Prop where
 M:MtH p r L
 S:LsH L (BL p r).length
 im:∀i,i<L.length->∀k,k<(L.getD i AA.d).l.length->AO p (AD p r) ((L.getD i AA.d).l.getD k 0)=(L.getD i AA.d).c
 q0:∀i,i<L.length->0<=(L.getD i AA.d).c.q
end
def erEn(p:Pt)(r:Mv)(L:List Stk)(a:List Entry):List Entry:=a++[⟨7,none,Uj p r⟩,⟨3,none,.own 0 0⟩,⟨2,none,DJ L⟩]
def erOw(p:Pt)(r:Mv)(a:List Blk):List Blk:=[.cells 29 [.int .i64 p.W,.int .i64 p.H,.sl 3 p.l.length (DZ p.l) none],.cells 31 [.int .u8 r.t,.int .i64 r.x,.int .i64 r.y]]++a
def IEr25(p:Pt)(r:Mv)(L:List Stk):Nat->Option Inv
 |8=>some {β:=Nat,ok:=λi=>i<=L.length,st:=λi=>⟨erEn p r L [⟨10,none,.int .i64 i⟩],erOw p r []⟩,μ:=λi=>L.length-i,sub:=λi=>some fun
  |11=>some {β:=Nat,ok:=λk=>i<L.length/\k<=(L.getD i AA.d).l.length,st:=λk=>⟨erEn p r L [⟨11,none,.int .i64 k⟩,⟨10,none,.int .i64 i⟩],erOw p r []⟩,μ:=λk=>(L.getD i AA.d).l.length-k}
  |_=>none}
 |19=>some {β:=Nat,ok:=λi=>i<=L.length/\∀m,m<3*i->KG p r L m=false,st:=λi=>⟨erEn p r L [⟨15,none,.int .i64 i⟩,⟨14,none,.int .i64 (WK (Pm p r L (3*i)))⟩,⟨13,none,Qc p⟩],erOw p r []⟩,μ:=λi=>L.length-i,sub:=λi=>some fun
  |23=>some {β:=Nat,ok:=λk=>(i<L.length/\k<=3)/\∀m,m<3*i+k->KG p r L m=false,st:=λk=>⟨erEn p r L [⟨17,none,.int .i64 k⟩,⟨16,none,.own 2 0⟩,⟨15,none,.int .i64 i⟩,⟨14,none,.int .i64 (WK (Pm p r L (3*i+k)))⟩,⟨13,none,Qc p⟩],erOw p r [.cells 39 (Rv (L.getD i AA.d).c)]⟩,μ:=λk=>3-k,sub:=λk=>some fun
   |30=>some {β:=Nat,ok:=λj=>(i<L.length/\k<3)/\j<=(HL p r L (3*i+k)).length/\KG p r L (3*i+k)=false,st:=λj=>⟨erEn p r L [⟨21,none,.int .i64 j⟩,⟨19,none,.sl 3 (HL p r L (3*i+k)).length (CL.row (HL p r L (3*i+k))) none⟩,⟨17,none,.int .i64 k⟩,⟨16,none,.own 2 0⟩,⟨15,none,.int .i64 i⟩,⟨14,none,.int .i64 (WK (Sg p r L (3*i+k) j))⟩,⟨13,none,Qc p⟩],erOw p r [.cells 39 (Rv (L.getD i AA.d).c),.cells 39 (Rv (Vf L (3*i+k)))]⟩,μ:=λj=>(HL p r L (3*i+k)).length-j}
   |_=>none}
  |_=>none}
 |_=>none
theorem pEr25{p:Pt}{r:Mv}{L:List Stk}(X:ErH p r L){z y:Int}(hz:z=0)(hy:y=1):PS 26 (PR [Eo p,ID r,DJ L] (.int .i64 (NN p r L))):=by
 obtain⟨A,T,zi,ww⟩:=X;have U:=A;have B:=pMt25 A;have C:=pLs25 T hz;obtain⟨U2,T5,P,hid,bc⟩:=U;obtain⟨⟨c9,c8⟩,V⟩:=U2;obtain⟨g9,O9,_,_⟩:=Qi P;have Q:EF p.l.length (DZ p.l)=p.l:=CU p.l;have E:PS 14 (Te (Eo p) (ID r) (.tup [Uj p r,.int .i64 y])):=f4b f8x (by
  have F:∃q,Vy [Eo p,ID r]=some (q,f9d ⟨p.W,p.H,EF p.l.length (DZ p.l)⟩ ⟨r.t,r.x,r.y⟩)/\q:=⟨_,rfl,by
   simp only[Q];exact⟨pr_pre ⟨⟨c9,c8⟩,V⟩,P⟩⟩
  rw[Q]at F;rw[hy];exact F)
 have I:PS 40 (Uo (Eo p) (Qc p)):=f4z pTab (by
  have F:∃q,Uw [Eo p]=some (q,Qc ⟨p.W,p.H,EF p.l.length (DZ p.l)⟩)/\q:=⟨_,rfl,by
   simp only[Q];exact⟨⟨FF _,c9⟩,c8,g9⟩⟩
  rw[Q]at F;exact F)
 refine con [(14,Te (Eo p) (ID r) (.tup [Uj p r,.int .i64 y])),(58,PR [DJ L,.int .i64 (BL p r).length] (.int .i64 z)),(40,Uo (Eo p) (Qc p)),(60,d80 p r L),(61,f1w),(62,XT),(63,d9n),(43,Qd),(59,Up),(18,Ua)] (by simpa using⟨E,C,I,B,pCr25,pPn25,pBn25,TH,f92,pImg⟩) (F1 [Eo p,ID r,DJ L] (.int .i64 (NN p r L))) (λ_=>IEr25 p r L) (PR [Eo p,ID r,DJ L] (.int .i64 (NN p r L))) (law1 (by simp[Eo,ID,DJ,BM,SV.le2,SV.le1,BH,SV.le0,GL,FU])) ?_ Tryz.func26 Dw Dw Dw ?_
 .exact C1
 .rintro⟨⟩ _;clear B C E I;obtain⟨G,G0,GV⟩:=c2h V.1 P;have PO:=PJ V.1 P;have fg:=PO.pl;have hs:=(FO g9).1;have hN:=CR hs;have hw:=GW hs;have Yx:=T5.1.1;have Y:=λi=>Pw T5.1 i;have J:∀i,i<L.length->∀k,k<(L.getD i AA.d).l.length->AU p ((L.getD i AA.d).l.getD k AC.d):=λi f k n=>by
   have o:=T.rg i f k n;refine⟨o.1,?_⟩;have Z:(L.getD i AA.d).l.getD k AC.d<((BL p r).length:Int):=o.2;omega
  have K:∀u,AU p u->(0<=u/4%p.W/\u/4%p.W<=300)/\(0<=u/4/p.W/\u/4/p.W<=300)/\0<=u%4/\u%4<=3:=λu a=>by have:=OW hs a.1 a.2;rw[HV hs a.1 a.2]at this;exact this
  have pre:∀u,AU p u->(0<=(AD p r u).t/\(AD p r u).t<=7)/\((-50000<=(AD p r u).x/\(AD p r u).x<=50000)/\ -50000<=(AD p r u).y/\(AD p r u).y<=50000)/\(-30000<=u/4%p.W/\u/4%p.W<=30000)/\(-30000<=u/4/p.W/\u/4/p.W<=30000)/\0<=u%4/\u%4<=3:=λu a=>by have o:=Oy (GV u a);have Z:=Nz (GV u a);have h3:=K u a;unfold FR at o;exact⟨o,⟨⟨Dv,Dv⟩,Dv,Dv⟩,⟨Dv,Dv⟩,⟨Dv,Dv⟩,Dv,Dv⟩
  have imq:∀i,i<L.length->∀k,k<(L.getD i AA.d).l.length->∀u,(L.getD i AA.d).l.getD k AC.d=u->(sq (AD p r u).t (u/4%p.W) (u/4/p.W)).1+(AD p r u).x=(L.getD i AA.d).c.x/\(sq (AD p r u).t (u/4%p.W) (u/4/p.W)).2+(AD p r u).y=(L.getD i AA.d).c.y/\tq (AD p r u).t (u%4)=(L.getD i AA.d).c.q:=λi f k n u a=>by have o:=zi i f k n;have Z:(L.getD i AA.d).l.getD k 0=u:=a;have s:=J i f k n;rw[a]at s;rw[Z]at o;unfold AO BU at o;rw[HV hs s.1 s.2]at o;rw[<-o];exact Ce
  have n31:∀i:Nat,3*(i+1)=3*i+3:=λi=>Dv;refine AB _ ?_;(repeat' first|constructor|refine Iu λa=> ?_|intro h)<;>refine Lm ?_
  all_goals(try first
   |exact⟨rfl,rfl⟩
   |rfl
   |exact⟨rfl,rfl,J5⟩
   |(exfalso;simp[hy]at h;done)
   |(exfalso;simp[hz]at h;done))
  refine⟨(0:Nat),Je _,?_,?_⟩
  .refine AB _ ?_;(repeat' first|constructor|refine Iu λa=> ?_|intro h)<;>refine Lm ?_
   all_goals first|exact Aj|skip
  .intro i f;replace f:i<=L.length:=f;have hgi:=Y i;refine AB _ ?_;(repeat' first|constructor|refine Iu λa=> ?_|intro h)<;>refine Lm ?_
   all_goals(try simp only[Ia]at*)
   all_goals(try first
    |exact Aw)
   .have b:i<L.length:=Dv;refine⟨(0:Nat),⟨b,Je _⟩,?_,?_⟩
    .refine AB _ ?_;(repeat' first|constructor|refine Iu λa=> ?_|intro h)<;>refine Lm ?_
     all_goals first|exact Aj|exact Ae|skip
    .intro k n;replace n:i<L.length/\k<=(L.getD i AA.d).l.length:=n;have zh:=J i b k;have pv:∀u:Int,(BL p r).getD u.toNat AH.d=AD p r u:=λu=>rfl;generalize a:(L.getD i AA.d).l.getD k AC.d=u at zh;have M:=λh=>imq i b k h u a;refine AB _ ?_;(repeat' first|constructor|refine Iu λa=> ?_|intro h)<;>refine Lm ?_
     all_goals(try simp only[Ia,a,pv,If,Ib]at*)
     all_goals(try first
      |exact Aw)
     all_goals first
      |(have gz:k<(L.getD i AA.d).l.length:=by omega
        have s:=zh gz;have jm:=K u s;have M:=M gz;have br:=s;unfold AU at br;first
         |exact Be
         |exact Au
         |exact pre u s
         |(exfalso
           have hh:=‹_\/_›;rcases hh with g|g|g|g
           .exact g M.1
           .exact g M.2.1
           .exact g M.2.2
           .cases g)
         |(refine⟨k+1,⟨b,Dv⟩,Eu,?_⟩
           all_goals refine AB _ ?_;(repeat' first|constructor|refine Iu λa=> ?_|intro h)<;>refine Lm ?_
           all_goals first|exact Aj|skip)
         |skip)
      |(refine⟨i+1,Ea,E7,?_⟩
        all_goals refine AB _ ?_;(repeat' first|constructor|refine Iu λa=> ?_|intro h)<;>refine Lm ?_
        all_goals first|exact Aj|skip)
      |skip
   .refine⟨(0:Nat),⟨Je _,λm v=>absurd v (Jq _)⟩,?_,?_⟩
    .refine AB _ ?_;(repeat' first|constructor|refine Iu λa=> ?_|intro h)<;>refine Lm ?_
     all_goals first|exact Aj|skip
    .intro i f;replace f:i<=L.length/\∀m,m<3*i->KG p r L m=false:=f;obtain⟨i1,i2⟩:=f;refine AB _ ?_;(repeat' first|constructor|refine Iu λa=> ?_|intro h)<;>refine Lm ?_
     all_goals(try simp only[Ia]at*)
     all_goals(try first
      |exact Be)
     .have b:i<L.length:=Dv;refine⟨(0:Nat),⟨⟨b,Dv⟩,λm v=>i2 m v⟩,?_,?_⟩
      .refine AB _ ?_;(repeat' first|constructor|refine Iu λa=> ?_|intro h)<;>refine Lm ?_
       all_goals first|exact Aj|skip
      .intro k n;replace n:(i<L.length/\k<=3)/\∀m,m<3*i+k->KG p r L m=false:=n;obtain⟨⟨_,k1⟩,k2⟩:=n;have hw1:=T.wide i b;have rh:=ww i b;have N:k<3->Vf L (3*i+k)=DD (L.getD i AA.d).c.x (L.getD i AA.d).c.y (L.getD i AA.d).c.q k:=λh=>(XU (p:=p) (r:=r) h).1;have hA:k<3->DT p r L ⟨(L.getD i AA.d).c.x,(L.getD i AA.d).c.y,(L.getD i AA.d).c.q⟩ ⟨(DD (L.getD i AA.d).c.x (L.getD i AA.d).c.y (L.getD i AA.d).c.q k).x,(DD (L.getD i AA.d).c.x (L.getD i AA.d).c.y (L.getD i AA.d).c.q k).y,(DD (L.getD i AA.d).c.x (L.getD i AA.d).c.y (L.getD i AA.d).c.q k).q⟩=HL p r L (3*i+k):=λh=>(XU h).2.1.symm;have hB:k<3->DT p r L ⟨(DD (L.getD i AA.d).c.x (L.getD i AA.d).c.y (L.getD i AA.d).c.q k).x,(DD (L.getD i AA.d).c.x (L.getD i AA.d).c.y (L.getD i AA.d).c.q k).y,(DD (L.getD i AA.d).c.x (L.getD i AA.d).c.y (L.getD i AA.d).c.q k).q⟩ ⟨(L.getD i AA.d).c.x,(L.getD i AA.d).c.y,(L.getD i AA.d).c.q⟩=UH p r L (3*i+k):=λh=>(XU h).2.2.symm;have lA:(HL p r L (3*i+k)).length<=3072:=c8h A _ _;have lB:(UH p r L (3*i+k)).length<=3072:=c8h A _ _;refine AB _ ?_;(repeat' first|constructor|refine Iu λa=> ?_|intro h)<;>refine Lm ?_
       all_goals(try simp only[Ia]at*)
       all_goals(try first
        |omega
        |exact⟨rfl,rfl,rfl,rfl⟩
        |exact⟨⟨rh,hw1.2.2⟩,⟨Dv,Dv⟩,Dv,Dv⟩
        |exact A7
        |(refine⟨i+1,⟨Dv,λm v=>k2 m Dv⟩,E7,?_⟩
          have ek:k=3:=Dv;subst ek;rw[n31];all_goals refine AB _ ?_;(repeat' first|constructor|refine Iu λa=> ?_|intro h)<;>refine Lm ?_
          all_goals first|exact Aj|skip))
       all_goals
        have w:k<3:=Dv;have N:=N w;have hA:=hA w;have hB:=hB w;simp only[RT.lst_row,hA,hB]at*
       all_goals(try first
        |exact⟨⟨CL.isL_row _,Dv⟩,CL.isL_row _,Dv⟩
        |(have hx:(List.range (3*L.length)).any (KG p r L)=true:=by
           rw[Jj];exact⟨3*i+k,Jn.2 Dv,Jf Dz⟩
          unfold NN;rw[Iz hx]))
       have R:KG p r L (3*i+k)=false:=Ji Dz;refine⟨(0:Nat),⟨⟨b,w⟩,Je _,R⟩,?_,?_⟩
       .rw[erI_0,N];refine AB _ ?_;(repeat' first|constructor|refine Iu λa=> ?_|intro h)<;>refine Lm ?_
        all_goals first|exact Aj|skip
       .intro j hj;replace hj:(i<L.length/\k<3)/\j<=(HL p r L (3*i+k)).length/\KG p r L (3*i+k)=false:=hj;obtain⟨_,j1,_⟩:=hj;have S:=@f2e p r L (3*i+k) j;have hje:=@g1m p r L (3*i+k);have O:j<(HL p r L (3*i+k)).length->AU p ((HL p r L (3*i+k)).getD j CL.d).1:=λh=>(mt_id A (BW h)).2;unfold AU at O;refine AB _ ?_;(repeat' first|constructor|refine Iu λa=> ?_|intro h)<;>refine Lm ?_
        all_goals(try simp only[Jk,RT.lst_row]at*)
        all_goals(try have ji:=Int.ofNat_lt.1 (K7 ‹decide ((j:Int)<((HL p r L (3*i+k)).length:Int))=true›))
        all_goals(try first
         |exact Aw
         |exact λ_=>⟨CL.isL_row _,Dv,Dv,Dv⟩
         |exact B9
         |(intro _;have:=O ji;exact⟨Dv,Dv⟩)
         |(have hJ:Ug p r (HL p r L (3*i+k)) j=true:=by assumption
           rw[hJ,Bool.or_true]at S;refine⟨j+1,⟨⟨b,w⟩,Dv,R⟩,by show _-(j+1)<_-j;omega,?_⟩;rw[S,N];all_goals refine AB _ ?_;(repeat' first|constructor|refine Iu λa=> ?_|intro h)<;>refine Lm ?_
           all_goals first|exact Aj|skip)
         |(have hJ:Ug p r (HL p r L (3*i+k)) j=false:=by assumption
           rw[hJ,Mb]at S;refine⟨j+1,⟨⟨b,w⟩,Dv,R⟩,by show _-(j+1)<_-j;omega,?_⟩;rw[S,N];all_goals refine AB _ ?_;(repeat' first|constructor|refine Iu λa=> ?_|intro h)<;>refine Lm ?_
           all_goals first|exact Aj|skip))
        all_goals
         have ej:j=(HL p r L (3*i+k)).length:=by have:=M6 ‹decide ((j:Int)<((HL p r L (3*i+k)).length:Int))=false›;omega
         subst ej;first
          |exact A7
          |(refine⟨k+1,⟨⟨b,Dv⟩,λm v=> ?_⟩,Ee,?_⟩
            .by_cases e:m<3*i+k
             .exact k2 m e
             .have:m=3*i+k:=Dv;rw[this];exact R
            .rw[hje];refine AB _ ?_;(repeat' first|constructor|refine Iu λa=> ?_|intro h)<;>refine Lm ?_
             all_goals first|exact Aj|skip)
          |skip
     .have ei:i=L.length:=Dv;subst ei;have hx:(List.range (3*L.length)).any (KG p r L)=false:=by
       rw[Jg];intro m v;rw[i2 m (Jn.1 v)];decide
      unfold NN WK;rw[hx,J3 (by decide:¬(false=true))]
theorem c12{t e:Int}(a:0<=e/\e<3):JP t (JP t e)=e:=by unfold JP;rcases GI a with rfl|rfl|rfl<;>(repeat' split)<;>omega
theorem YR{l:List Int}(h:l.Nodup){j:Nat}(a:j<l.length):AY l (l.getD j 0)=j:=b4j a (λ_ b=>d31 h b a) rfl
theorem d55{l:List Int}{v:Int}(h:v∈l):∃j:Nat,j<l.length/\l.getD j 0=v/\(j:Int)=AY l v:=by
 obtain⟨j,hj,e⟩:=HH (d:=(0:Int)) h;have a:=FM.2 h;have h2:=d2v l v;refine⟨(AY l v).toNat,Dv,?_,Dv⟩;unfold AY at a⊢;cases hf:l.findIdx? (λx=>decide (x=v))with
 |none=>rw[hf]at a;simp at a
 |some i=>
  obtain⟨c,b,_⟩:=Kd.1 hf;have b:=K7 b;simp only[Jk];rw[Ix,Iy c];exact b
theorem Nt{l:List Int}(a:l.Nodup){x y:Int}(h:CC l x y):AY l x<AY l y:=by
 obtain⟨hx,b⟩:=Gl h;rcases Int.lt_trichotomy (AY l x) (AY l y)with q|q|q
 .exact q
 .have:=b6h (FM.2 hx) q;subst this;exact(WO a h h).elim
 .exact(WO a h (II (FM.2 b) q)).elim
section
variable{p:Pt}{P:Int->Mv}
def LJ(p:Pt)(i e:Int):Int:=if AX p.W p.H i e=0 then AP p i e else -1
def MF(p:Pt)(i e:Int):Int:=if AX p.W p.H i e=0 then AW p i e else 0
def Bo(p:Pt)(P:Int->Mv)(d:Cl)(i:Int):Int:=if BA p P i 0=d then 0 else if BA p P i 1=d then 1 else 2
def Om(p:Pt)(P:Int->Mv)(d:Cl)(i:Int):Wt:=(i,LJ p i (Bo p P d i),MF p i (Bo p P d i))
theorem c4g(hs:AV p.W p.H=0)(G:PlcG p P){i e a:Int}(hi:AU p i)(b:0<=e/\e<3)(c:0<=a/\a<3)(h:BA p P i e=BA p P i a):e=a:=by rw[RU hs G hi b,RU hs G hi c]at h;have:=UZ (LL hs G hi) (NY b) (NY c) h;rw[<-c12 (t:=(P i).t) b,this,c12 c]
theorem f65(hs:AV p.W p.H=0)(G:PlcG p P){i e0:Int}{d:Cl}(hi:AU p i)(c:0<=e0/\e0<3)(e:d=AQ (AO p P i) e0):(0<=Bo p P d i/\Bo p P d i<3)/\BA p P i (Bo p P d i)=d:=by
 have hx:BA p P i (JP (P i).t e0)=d:=by rw[RU hs G hi (NY c),c12 c,e]
 unfold Bo;by_cases a:BA p P i 0=d
 .rw[Iz a];exact⟨Dv,a⟩
 .rw[J3 a];by_cases b:BA p P i 1=d
  .rw[Iz b];exact⟨Dv,b⟩
  .rw[J3 b];refine⟨Dv,?_⟩;rcases GI (NY (t:=(P i).t) c)with q|q|q
   .rw[q]at hx;exact absurd hx a
   .rw[q]at hx;exact absurd hx b
   .rw[q]at hx;exact hx
theorem g1a(hs:AV p.W p.H=0)(G:PlcG p P){i e:Int}{d:Cl}(hi:AU p i)(a:0<=e/\e<3)(h:BA p P i e=d):Bo p P d i=e:=by
 have b:d=AQ (AO p P i) (JP (P i).t e):=by rw[<-h];exact RU hs G hi a
 obtain⟨c,f⟩:=f65 hs G hi (NY a) b;exact c4g hs G hi c a (f.trans h.symm)
theorem mtO_at(hs:AV p.W p.H=0)(j:BE p=0)(G:PlcG p P){i e0:Int}{d:Cl}(hi:AU p i)(l:0<=e0/\e0<3)(m:d=AQ (AO p P i) e0)(k:Nat)(c:k<3):Nm p P d i k=if k=CV (i%4) (Bo p P d i)then some (Om p P d i)else none:=by
 obtain⟨e,n⟩:=f65 hs G hi l m;have f:0<=i%4/\i%4<=3:=Nu;unfold Nm;by_cases h:k=CV (i%4) (Bo p P d i)
 .have b:kE (i%4) k=Bo p P d i:=(Su f e k c).2 h;rw[Iz h,b,Iz n];unfold Om LJ MF BK IX;have g:uA (3*i.toNat+k)=i:=by
   have:=hi.1;show (((3*i.toNat+k)/3:Nat):Int)=i;omega
  have o:uE (3*i.toNat+k)=Bo p P d i:=by show kE (uA (3*i.toNat+k)%4) (((3*i.toNat+k)%3:Nat):Int)=_;rw[g,show (3*i.toNat+k)%3=k from Dv,b]
  rw[g,o,b];by_cases a:AX p.W p.H i (Bo p P d i)=0
  .rw[Iz a,Iz a,Iz a,c91 j a]
  .rw[J3 a,J3 a,J3 a]
 .rw[J3 h,J3];intro q;exact h ((Su f e k c).1 (g1a hs G hi (LF (q:=i%4) (k:=k)) q).symm)
theorem mt_eq(hs:AV p.W p.H=0)(f:BE p=0)(G:PlcG p P){c d:Cl}{e0:Int}(g:0<=e0/\e0<3)(i:d=AQ c e0){l:List Int}(j:∀v∈l,AU p v/\AO p P v=c):∀a,a<=l.length->ME p P d l (3*a)=(l.take a).map (Om p P d)
 |0,_=>rfl
 |a+1,h=>by
  have m:=mt_eq hs f G g i j a Dv;have n:=BW (d:=(0:Int)) (show a<l.length from Dv);obtain⟨o,r⟩:=j _ n;have s:=mtO_at (d:=d) hs f G o g (by rw[r];exact i);rw[JD (d:=(0:Int)) Dv,Lk,<-m];have hk:=@Ot (l.getD a 0%4) (Bo p P d (l.getD a 0));have b:∀k,k<3->ME p P d l (3*a+k+1)=ME p P d l (3*a+k)++(if k=CV (l.getD a 0%4) (Bo p P d (l.getD a 0))then [Om p P d (l.getD a 0)]else []):=λk e=>by
   have:=s k e;by_cases q:k=CV (l.getD a 0%4) (Bo p P d (l.getD a 0))
   .rw[Iz q]at this⊢;exact d47 e this
   .rw[J3 q]at this⊢;rw[d6z e this,List.append_nil]
  have t:=b 0 Dv;have u:=b 1 Dv;have w:=b 2 Dv;rw[show 3*(a+1)=3*a+2+1 from Dv,w,show 3*a+2=3*a+1+1 from Dv,u,show 3*a+1=3*a+0+1 from Dv,t,Lu];have x:CV (l.getD a 0%4) (Bo p P d (l.getD a 0))=0\/CV (l.getD a 0%4) (Bo p P d (l.getD a 0))=1\/CV (l.getD a 0%4) (Bo p P d (l.getD a 0))=2:=Dv;rcases x with q|q|q<;>(rw[q];simp)
end
section
variable{p:Pt}{r:Mv}{L:List Stk}
structure ErG (p:Pt) (r:Mv) (L:List Stk):Prop where
 hs:AV p.W p.H=0
 hp:BE p=0
 G:PlcG p (AD p r)
 F:StkF p (AD p r) (AF L)
 cN:DS L
variable{c d:Cl}{e0:Int}
theorem g12(X:ErG p r L)(a:0<=e0/\e0<3)(b:d=AQ c e0):DT p r L c d=(AF L c).map (Om p (AD p r) d):=by have:=mt_eq X.hs X.hp X.G a b (l:=AF L c) (λv e=>(X.F.mem c v).1 e) _ (J9 _);rw[Kx]at this;exact this
theorem TJ(X:ErG p r L)(a:0<=e0/\e0<3)(b:d=AQ c e0){j:Nat}(e:j<(AF L c).length):(DT p r L c d).getD j CL.d=Om p (AD p r) d ((AF L c).getD j 0):=by rw[g12 X a b,Ix,Ix,Jr,Iy e];rfl
theorem WI(X:ErG p r L)(a:0<=e0/\e0<3)(b:d=AQ c e0):(DT p r L c d).length=(AF L c).length:=by rw[g12 X a b,Jv]
theorem Pl(X:ErG p r L)(a:0<=e0/\e0<3)(b:d=AQ c e0)(v:Int):NA (DT p r L c d) v=AY (AF L c) v:=by
 unfold NA;rw[g12 X a b,Ma];have:(AF L c).map ((λx:Wt=>x.1)∘Om p (AD p r) d)=AF L c:=by have e:((λx:Wt=>x.1)∘Om p (AD p r) d)=id:=rfl;rw[e,List.map_id]
 rw[this]
theorem Xg(X:ErG p r L)(k:0<=e0/\e0<3)(l:d=AQ c e0){x:Int}(hx:x∈AF L c):(MF p x (Bo p (AD p r) d x)≠0->BX p x (Bo p (AD p r) d x)/\AW p x (Bo p (AD p r) d x)≠0/\LJ p x (Bo p (AD p r) d x)=AP p x (Bo p (AD p r) d x)/\AP p x (Bo p (AD p r) d x)∈AF L c)/\(0<=LJ p x (Bo p (AD p r) d x)->MF p x (Bo p (AD p r) d x)=0->BX p x (Bo p (AD p r) d x)/\AW p x (Bo p (AD p r) d x)=0/\LJ p x (Bo p (AD p r) d x)=AP p x (Bo p (AD p r) d x)/\AP p x (Bo p (AD p r) d x)∈AF L d)/\BA p (AD p r) x (Bo p (AD p r) d x)=d/\AO p (AD p r) x=c/\AU p x:=by
 obtain⟨b,g⟩:=(X.F.mem c x).1 hx;obtain⟨f,i⟩:=f65 (d:=d) X.hs X.G b k (by rw[g];exact l);refine⟨λh=> ?_,λj h=> ?_,i,g,b⟩
 .unfold MF at h;by_cases a:AX p.W p.H x (Bo p (AD p r) d x)=0
  .rw[Iz a]at h;have e:BX p x (Bo p (AD p r) d x):=⟨b,f,a⟩
   refine⟨e,h,Iz a,?_⟩;have:=(LS X.hs X.G b f a h).1;exact(X.F.mem c _).2 ⟨(IP X.hs e).1.1,this.trans g⟩
  .rw[J3 a]at h;exact absurd rfl h
 .unfold MF at h;unfold LJ at j;by_cases a:AX p.W p.H x (Bo p (AD p r) d x)=0
  .rw[Iz a]at h;have e:BX p x (Bo p (AD p r) d x):=⟨b,f,a⟩
   refine⟨e,h,Iz a,?_⟩;have:=(LG X.hs X.G b f a h).2.1;exact(X.F.mem d _).2 ⟨(IP X.hs e).1.1,this.trans i⟩
  .rw[J3 a]at j;omega
theorem er_nA(X:ErG p r L)(N:NcG p (AD p r) (AF L))(a:0<=e0/\e0<3)(b:d=AQ c e0):MW (DT p r L c d)=false:=by
 refine d7p λi l=> ?_;by_cases m:JA (DT p r L c d) i=0
 .unfold Qf;rw[m];rfl
 refine f3n λk h1 o=> ?_;rw[WI X a b]at l;have H:=X.F.nd c;have s:k<(AF L c).length:=by have:=(c6x (DT p r L c d) (JE (DT p r L c d) i)).2;rw[WI X a b]at this;have e:GH (DT p r L c d) i=NA (DT p r L c d) (JE (DT p r L c d) i):=rfl;omega
 have t:=TJ X a b l;have gk:=TJ X a b s;have I:=BW (d:=(0:Int)) l;have J:=BW (d:=(0:Int)) s;have ii:=YR H l;have ik:=YR H s;unfold JA at m;rw[t]at m;unfold GH JE at o;rw[t,Pl X a b]at o;unfold PC GH JE JA;rw[t,gk,Pl X a b,Pl X a b];generalize (AF L c).getD i 0=x at*;generalize (AF L c).getD k 0=y at*;obtain⟨Q,_,u,v,x5⟩:=Xg X a b I;obtain⟨R,S,w,z,y5⟩:=Xg X a b J;obtain⟨hx,A,K,T⟩:=Q m;have U:AY (AF L c) y<AY (AF L c) (AP p x (Bo p (AD p r) d x)):=by have:(k:Int)<AY (AF L c) (LJ p x (Bo p (AD p r) d x)):=o;rw[K]at this;omega
 have B:CC (AF L c) x y:=II (FM.2 I) Dv;have C:CC (AF L c) y (AP p x (Bo p (AD p r) d x)):=II (FM.2 J) U;rw[Kk];constructor
 .rw[Lj];by_cases g:MF p y (Bo p (AD p r) d y)=0
  .by_cases M:0<=LJ p y (Bo p (AD p r) d y)
   .obtain⟨f,j,_,_⟩:=S M g;exact(N.pl y _ x _ f hx j A (u.trans w.symm) (by rw[z];exact B) (by rw[z];exact C)).elim
   .exact .inl (Ji M)
  .exact .inr (Ji g)
 .rw[Lj];by_cases g:MF p y (Bo p (AD p r) d y)=0
  .left;show (!decide (MF p y (Bo p (AD p r) d y)=0))=false;rw[g];rfl
  .right;obtain⟨f,j,O,V⟩:=R g;rw[Kk];constructor
   .refine Ji λq=> ?_;have n:AY (AF L c) (LJ p y (Bo p (AD p r) d y))<i:=q;rw[O]at n;have W:CC (AF L c) (AP p y (Bo p (AD p r) d y)) x:=II (FM.2 V) Dv;obtain⟨Y,P⟩:=IP X.hs f;obtain⟨Z,l2,_⟩:=LS X.hs X.G f.1 f.2.1 f.2.2 j;have E:AO p (AD p r) (AP p y (Bo p (AD p r) d y))=c:=Z.trans z;refine N.ll (AP p y (Bo p (AD p r) d y)) _ x _ Y hx (by rw[LX X.hs X.hp f];exact j) A (by rw[l2,w,u]) ?_ ?_ ?_
    .rw[E];exact W
    .rw[E,P];exact B
    .rw[E,P];exact C
   .refine Ji λq=> ?_;have n:AY (AF L c) (LJ p x (Bo p (AD p r) d x))<AY (AF L c) (LJ p y (Bo p (AD p r) d y)):=q;rw[K,O]at n;refine N.ll x _ y _ hx f A j (u.trans w.symm) ?_ ?_ ?_
    .rw[v];exact B
    .rw[v];exact C
    .rw[v];exact II (FM.2 T) n
theorem er_nB(X:ErG p r L)(N:NcG p (AD p r) (AF L))(o:CO c)(a:0<=e0/\e0<3)(b:d=AQ c e0):Sd (DT p r L c d) (DT p r L d c)=false:=by
 have g:c=AQ d e0:=by rw[b];exact(RC o a).symm
 refine f53 λi e=>f47 λk h1 f=> ?_;rw[WI X a b]at e f;have j:=X.F.nd c;have s:=TJ X a b e;have gk:=TJ X a b f;have l:=BW (d:=(0:Int)) e;have t:=BW (d:=(0:Int)) f;have ii:=YR j e;have ik:=YR j f;unfold Pk JE JA;rw[s,gk,Pl X a g,Pl X a g];generalize (AF L c).getD i 0=x at*;generalize (AF L c).getD k 0=y at*;obtain⟨_,u,m,v,x5⟩:=Xg X a b l;obtain⟨_,w,z,y4,y5⟩:=Xg X a b t;cases hb:((decide ((Om p (AD p r) d x).2.2=0)&&decide ((Om p (AD p r) d y).2.2=0))&&(decide (0<=(Om p (AD p r) d x).2.1)&&decide (0<=(Om p (AD p r) d y).2.1)))with
 |false=>rfl
 |true=>
  simp only[Ij]at hb;obtain⟨⟨k1,k2⟩,A,B⟩:=hb;obtain⟨hx,C,E,mx⟩:=u A k1;obtain⟨G,H,I,my⟩:=w B k2;rw[Bool.true_and];refine Ji λq=> ?_;have J:AY (AF L d) (LJ p y (Bo p (AD p r) d y))<AY (AF L d) (LJ p x (Bo p (AD p r) d x)):=q;rw[E,I]at J;have K:CC (AF L c) x y:=II (FM.2 l) Dv;have n:=N.pp x _ y _ hx G C H (m.trans z.symm) (by rw[v];exact K);rw[m]at n;have:=Nt (X.F.nd d) n;omega
theorem d6v(f:∀i,i<L.length->CO (L.getD i AA.d).c){m:Nat}(hm:m<3*L.length):∃c e0,CO c/\(0<=e0/\e0<3)/\HL p r L m=DT p r L c (AQ c e0)/\UH p r L m=DT p r L (AQ c e0) c:=by have g:m/3<L.length:=Dv;have e:m=3*(m/3)+m%3:=Dv;obtain⟨_,a,b⟩:=@XU p r L (m/3) (m%3) Dv;rw[<-e]at a b;exact⟨(L.getD (m/3) AA.d).c,kE (L.getD (m/3) AA.d).c.q ((m%3:Nat):Int),f _ g,LF,a,b⟩
theorem f4h(X:ErG p r L)(e:∀i,i<L.length->CO (L.getD i AA.d).c)(N:NcG p (AD p r) (AF L)){m:Nat}(f:m<3*L.length):KG p r L m=false:=by obtain⟨c,e0,b,a,g,h⟩:=d6v (p:=p) (r:=r) e f;have j:c=AQ (AQ c e0) e0:=(RC b a).symm;unfold KG Qw;rw[g,h,er_nA X N a rfl,er_nA X N a j,er_nB X N b a rfl];simp
theorem er_noK(X:ErG p r L)(u:∀i,i<L.length->CO (L.getD i AA.d).c)(D:Of p (AD p r) (AF L)){m:Nat}(v:m<3*L.length):WU p r L m=false:=by
 obtain⟨c,e0,hc,f,w,h2⟩:=d6v (p:=p) (r:=r) u v;unfold WU;rw[w,Jg];intro j e;have e:=Jn.1 e;rw[WI X f rfl]at e;have x:=TJ X f rfl e;have z:=BW (d:=(0:Int)) e;have ij:=YR (X.F.nd c) e;intro g;unfold Ug GH JE JA at g;rw[x,Pl X f rfl]at g;generalize (AF L c).getD j 0=y at*;obtain⟨A,_,y3,B,y5⟩:=Xg X f rfl z;simp only[Iv,Ig]at g;obtain⟨⟨C,E⟩,H⟩:=g;obtain⟨b,o,I,J⟩:=A C;have l:AY (AF L c) (LJ p y (Bo p (AD p r) (AQ c e0) y))<j:=E;rw[I]at l;have K:CC (AF L c) (AP p y (Bo p (AD p r) (AQ c e0) y)) y:=II (FM.2 J) Dv;obtain⟨M,q⟩:=IP X.hs b;have N:=(LS X.hs X.G b.1 b.2.1 b.2.2 o).1;have n:AO p (AD p r) (AP p y (Bo p (AD p r) (AQ c e0) y))=c:=N.trans B;have s:=D _ _ M (by rw[LX X.hs X.hp b];exact o) (by rw[q,n];exact K);rw[q,LX X.hs X.hp b]at s;have a:SM (MF p y (Bo p (AD p r) (AQ c e0) y)) (decide ((AD p r y).t<4))=0:=H;have O:MF p y (Bo p (AD p r) (AQ c e0) y)=AW p y (Bo p (AD p r) (AQ c e0) y):=Iz b.2.2;rw[O,s]at a;unfold SM at a;by_cases k:(AD p r y).t<4
 .rw[Iz k,Jf k]at a;simp at a
 .rw[J3 k,Ji k]at a;simp at a
theorem g1b(X:ErG p r L)(b:∀i,i<L.length->CO (L.getD i AA.d).c)(N:NcG p (AD p r) (AF L))(D:Of p (AD p r) (AF L)):NN p r L=0:=by
 have e:(List.range (3*L.length)).any (KG p r L)=false:=by rw[Jg];intro m a;rw[f4h X b N (Jn.1 a)];decide
 have f:Pm p r L (3*L.length)=false:=by unfold Pm;rw[Jg];intro m a;rw[er_noK X b D (Jn.1 a)];decide
 unfold NN;rw[e,f];rfl
theorem f3j(X:ErG p r L){x e:Int}(hx:AU p x)(b:0<=e/\e<3):∃m,m<3*L.length/\HL p r L m=DT p r L (AO p (AD p r) x) (BA p (AD p r) x e)/\UH p r L m=DT p r L (BA p (AD p r) x e) (AO p (AD p r) x)/\∃e0,(0<=e0/\e0<3)/\BA p (AD p r) x e=AQ (AO p (AD p r) x) e0:=by
 have f:=(X.F.mem (AO p (AD p r) x) x).2 ⟨hx,rfl⟩;have o:=LL X.hs X.G hx;have g:=RU X.hs X.G hx b;have j:=NY (t:=(AD p r x).t) b;rcases RJ L (AO p (AD p r) x)with⟨s,hs,a⟩|a
 .obtain⟨i,hi,k⟩:=HH (d:=AA.d) hs;have u:=@Ot (AO p (AD p r) x).q (JP (AD p r x).t e);obtain⟨_,l,n⟩:=@XU p r L i (CV (AO p (AD p r) x).q (JP (AD p r x).t e)) u;have v:DD (L.getD i AA.d).c.x (L.getD i AA.d).c.y (L.getD i AA.d).c.q ((CV (AO p (AD p r) x).q (JP (AD p r x).t e):Nat):Int)=BA p (AD p r) x e:=by
   rw[k,a,g];show AQ (AO p (AD p r) x) (kE (AO p (AD p r) x).q _)=_;rw[SE o j]
  rw[v,k,a]at l n;exact⟨_,Dv,l,n,_,j,g⟩
 .rw[a]at f;cases f
theorem nc_of(X:ErG p r L)(h:∀m,m<3*L.length->KG p r L m=false):NcG p (AD p r) (AF L):=by
 have none:∀{x e:Int},AU p x->(0<=e/\e<3)->(MW (DT p r L (AO p (AD p r) x) (BA p (AD p r) x e))=false/\Sd (DT p r L (AO p (AD p r) x) (BA p (AD p r) x e)) (DT p r L (BA p (AD p r) x e) (AO p (AD p r) x))=false)/\∃e0,(0<=e0/\e0<3)/\BA p (AD p r) x e=AQ (AO p (AD p r) x) e0:=λ{x e} hx f=>by
  obtain⟨m,R,a1,a2,jr⟩:=f3j X hx f;have z:=h m R;unfold KG Qw at z;rw[a1,a2]at z;refine⟨⟨?_,?_⟩,jr⟩
  .cases E:MW (DT p r L (AO p (AD p r) x) (BA p (AD p r) x e))with
   |false=>rfl
   |true=>rw[Iz (.inl E)]at z;simp at z
  .cases E:Sd (DT p r L (AO p (AD p r) x) (BA p (AD p r) x e)) (DT p r L (BA p (AD p r) x e) (AO p (AD p r) x))with
   |false=>rfl
   |true=>rw[Iz (.inr (.inr E))]at z;simp at z
 have M:∀{c d:Cl} {e0:Int},(0<=e0/\e0<3)->d=AQ c e0->∀{x e:Int},BX p x e->x∈AF L c->BA p (AD p r) x e=d->∃n:Nat,n<(DT p r L c d).length/\(n:Int)=AY (AF L c) x/\JE (DT p r L c d) n=AP p x e/\JA (DT p r L c d) n=AW p x e:=λ{c d e0} f l {x e} hx R s=>by
  obtain⟨n,hn,N,S⟩:=d55 R;have g:=TJ X f l hn;have ee:=g1a X.hs X.G hx.1 hx.2.1 s;refine⟨n,by rw[WI X f l];exact hn,S,?_,?_⟩
  .unfold JE;rw[g,N];show LJ p x (Bo p (AD p r) d x)=_;rw[ee];exact Iz hx.2.2
  .unfold JA;rw[g,N];show MF p x (Bo p (AD p r) d x)=_;rw[ee];exact Iz hx.2.2
 have no_loop:∀{c d:Cl} {e0:Int},(0<=e0/\e0<3)->d=AQ c e0->MW (DT p r L c d)=false->∀{a k b m:Int},BX p a k->BX p b m->AW p a k≠0->BA p (AD p r) a k=d->BA p (AD p r) b m=d->CC (AF L c) a b->CC (AF L c) b (AP p a k)->(AW p b m=0\/AW p b m≠0/\CC (AF L c) (AP p a k) (AP p b m))->False:=λ{c d e0} f l H {a k b m} t u I oa ob v J w=>by
  have K:=X.F.nd c;obtain⟨A,l1,i1,T,U⟩:=M f l t (Gl v).1 oa;obtain⟨B,l2,i2,O,P⟩:=M f l u (Gl v).2 ob;have b1:=Nt K v;have b2:=Nt K J;have p1:GH (DT p r L c d) A=AY (AF L c) (AP p a k):=by unfold GH;rw[Pl X f l,T]
  have V:PC (DT p r L c d) A B=true:=by
   unfold PC;rw[K1,Jt,Jt];rcases w with w|⟨w,h4⟩
   .left;have js:=(IP X.hs u).1.1.1;exact⟨by rw[O];exact Jf js,by rw[P];exact Jf w⟩
   .right;have p2:GH (DT p r L c d) B=AY (AF L c) (AP p b m):=by
     unfold GH;rw[Pl X f l,O]
    have b3:=Nt K h4;refine⟨by rw[P,Ji w];rfl,?_⟩;rw[K1];right;rw[p1,p2];exact Jf b3
  have:=d1e (by rw[U];exact I) (show A<B from Dv) (by rw[p1];omega) V l1;rw[H]at this;cases this
 refine⟨λi e j k o C Q kj s u=> ?_,λi e a k o t Q I s v J=> ?_,λa k b m t u I kb s v J w=> ?_⟩
 .obtain⟨⟨_,hB⟩,e0,f,l⟩:=none o.1 o.2.1;have hq:=LL X.hs X.G o.1;generalize E:AO p (AD p r) i=c at*;generalize vg:BA p (AD p r) i e=d at*;have dj:c=AQ d e0:=by rw[l];exact(RC hq f).symm
  have K:=X.F.nd c;obtain⟨mi,mj⟩:=Gl u;have X4:=((X.F.mem c j).1 mj).2;obtain⟨A,l1,i1,T,U⟩:=M f l o mi vg;obtain⟨B,l2,i2,O,P⟩:=M f l C mj s.symm;have b1:=Nt K u;obtain⟨pi1,W,Y⟩:=LG X.hs X.G o.1 o.2.1 o.2.2 Q;obtain⟨pj1,Z,pj3⟩:=LG X.hs X.G C.1 C.2.1 C.2.2 kj;obtain⟨ei,ei2⟩:=IP X.hs o;obtain⟨ej,y⟩:=IP X.hs C;have m1:AP p i e∈AF L d:=(X.F.mem d _).2 ⟨ei.1,W.trans vg⟩;have m2:AP p j k∈AF L d:=(X.F.mem d _).2 ⟨ej.1,Z.trans s.symm⟩;rcases Int.lt_trichotomy (AY (AF L d) (AP p i e)) (AY (AF L d) (AP p j k))with q|q|q
  .exact II (FM.2 m1) q
  .exfalso;have N:=b6h (FM.2 m1) q;have o1:BA p (AD p r) (AP p i e) e=c:=Y.trans E;have o2:BA p (AD p r) (AP p j k) k=c:=pj3.trans X4;rw[<-N]at o2 y;have S:=c4g X.hs X.G ei.1 o.2.1 C.2.1 (o1.trans o2.symm);subst S;rw[ei2]at y;subst y;omega
  .exfalso;have V:Pk (DT p r L c d) (DT p r L d c) A B=true:=by
    unfold Pk;rw[U,P,T,O,Pl X f dj,Pl X f dj,Q,kj,Jf ei.1.1,Jf ej.1.1,Jf q];rfl
   rw[d22 (show A<B from Dv) l2 V]at hB;cases hB
 .obtain⟨⟨H,_⟩,e0,f,l⟩:=none o.1 o.2.1;exact no_loop f l H t o I s rfl v J (.inl Q)
 .obtain⟨⟨H,_⟩,e0,f,l⟩:=none t.1 t.2.1;exact no_loop f l H t u I rfl s.symm v J (.inr ⟨kb,w⟩)
theorem kd_of(X:ErG p r L)(h12:∀a k,BX p a k->AW p a k≠0->AW p a k=1\/AW p a k=2)(h:∀m,m<3*L.length->WU p r L m=false):Of p (AD p r) (AF L):=by
 intro a k e l u;obtain⟨m,x,y,_,e0,n,o⟩:=f3j X e.1 e.2.1;have q:=h m x;unfold WU at q;rw[y,Jg]at q;obtain⟨l1,z,_⟩:=LS X.hs X.G e.1 e.2.1 e.2.2 l;obtain⟨f,A⟩:=IP X.hs e;generalize hc:AO p (AD p r) a=c at*;generalize vg:BA p (AD p r) a k=d at*;have B:=X.F.nd c;obtain⟨j,v,C,e2⟩:=d55 (Gl u).2;have g:=TJ X n o v;have w:Bo p (AD p r) d (AP p a k)=k:=g1a X.hs X.G f.1 f.2.1 z;have b1:=Nt B u;have E:=LX X.hs X.hp e;have s:=q j (Jn.2 (by rw[WI X n o];exact v));unfold Ug GH JE JA at s;rw[g,Pl X n o,C]at s;have H:LJ p (AP p a k) (Bo p (AD p r) d (AP p a k))=a:=by rw[w];exact(Iz f.2.2).trans A
 have I:MF p (AP p a k) (Bo p (AD p r) d (AP p a k))=AW p a k:=by rw[w];exact(Iz f.2.2).trans E
 have b:¬((!decide (MF p (AP p a k) (Bo p (AD p r) d (AP p a k))=0)&&decide (AY (AF L c) (LJ p (AP p a k) (Bo p (AD p r) d (AP p a k)))<j))&&decide (SM (MF p (AP p a k) (Bo p (AD p r) d (AP p a k))) (decide ((AD p r (AP p a k)).t<4))=0))=true:=s;rw[H,I,Ji l,Jf (show AY (AF L c) a<j from Dv)]at b;simp only[Bool.not_false,Bool.true_and,Jb]at b;unfold SM at b;have k3:=h12 a k e l;by_cases i:(AD p r (AP p a k)).t<4
 .rw[Iz i];rw[Jf i]at b;rcases k3 with k3|k3
  .exact k3
  .rw[k3]at b;simp at b
 .rw[J3 i];rw[Ji i]at b;rcases k3 with k3|k3
  .rw[k3]at b;simp at b
  .exact k3
end
theorem add_ps{b:Bd}{u e:Int}{s:Sm}{x:Pa}(h:x∈s.ps):x∈(GP b u e s).ps:=by
 unfold GP;split
 .split
  .exact h
  .split
   .exact N7 _ h
   .exact h
 .exact h
theorem d38{b:Bd}{u e:Int}{S:List Sm}{s:Sm}{x:Pa}(hs:s∈S)(hx:x∈s.ps):∃t∈GO b u e S,x∈t.ps:=by
 have f:s∈Co S (CT b u) (DR b u e):=by
  unfold Co;split
  .exact hs
  .exact N7 _ hs
 obtain⟨j,hj,c⟩:=HH (d:=BB) f;have g:=QE S (CT b u) (DR b u e);have b6:=LA g;have hl:=Va b u e S;by_cases a:j=CG (Co S (CT b u) (DR b u e)) (HM (CT b u) (DR b u e))
 .refine⟨_,BW (d:=BB) (i:=j) Dv,?_⟩;rw[a,Xo,<-a,c];exact add_ps hx
 .refine⟨_,BW (d:=BB) (i:=j) Dv,?_⟩;rw[c4q a,c];exact hx
section
variable{p:Pt}{r:Mv}{L:List Stk}
def PaOf(x:Pa)(u v:Int):Prop:=(x.a=u/\x.b=v)\/(x.a=v/\x.b=u)
theorem b7v:∀(k u e:Nat),e<3->3*u+e<k->AX p.W p.H (u:Int) (e:Int)=0->¬AG p.W p.H (u:Int) (e:Int)<(u:Int)->AW p (u:Int) (e:Int)=0->∃s∈DY (Ao p r L) k,∃x∈s.ps,PaOf x (u:Int) (AG p.W p.H (u:Int) (e:Int))
 |0,_,_,_,h,_,_,_=>absurd h (Jq _)
 |k+1,u,e,a,h,c,f,g=>by
  by_cases l:3*u+e<k
  .obtain⟨s,hs,x,hx,m⟩:=b7v k u e a l c f g;obtain⟨t,n,o⟩:=d38 (b:=Ao p r L) (u:=((k/3:Nat):Int)) (e:=((k%3:Nat):Int)) hs hx;exact⟨t,n,x,o,m⟩
  .have q:k=3*u+e:=Dv;subst q;rw[b3b _ a];have hl:=Va (Ao p r L) (u:Int) (e:Int) (DY (Ao p r L) (3*u+e));have hh:=LA (QE (DY (Ao p r L) (3*u+e)) (CT (Ao p r L) u) (DR (Ao p r L) u e));refine⟨_,BW (d:=BB) (i:=CG (Co (DY (Ao p r L) (3*u+e)) (CT (Ao p r L) u) (DR (Ao p r L) u e)) (HM (CT (Ao p r L) u) (DR (Ao p r L) u e))) Dv,?_⟩;rw[Xo];unfold GP;rw[Iz (show AX (Ao p r L).p.W (Ao p r L).p.H u e=0 from c),J3 (show¬AG (Ao p r L).p.W (Ao p r L).p.H u e<u from f),Iz (show AW (Ao p r L).p u e=0 from g)];refine⟨_,List.mem_append_right _ (Js.2 rfl),?_⟩;unfold PaOf;by_cases j:CT (Ao p r L) u=((Co (DY (Ao p r L) (3*u+e)) (CT (Ao p r L) u) (DR (Ao p r L) u e)).getD (CG (Co (DY (Ao p r L) (3*u+e)) (CT (Ao p r L) u) (DR (Ao p r L) u e)) (HM (CT (Ao p r L) u) (DR (Ao p r L) u e))) BB).b
   .rw[Iz j];exact .inr ⟨rfl,rfl⟩
   .rw[J3 j];exact .inl ⟨rfl,rfl⟩
theorem f8z(h:CS p r L=0){s:Sm}(hs:s∈EH p r L){x:Pa}(hx:x∈s.ps):∃t∈DW p r L,x∈t.ps:=by
 have c:GC s∈DX p r L:=b4f.2 ⟨s,hs,rfl⟩;refine⟨JK (Ao p r L) ((EH p r L).getD (CG (EH p r L) (BN (sN (GC s).a (GC s).b))) BB),?_,?_⟩
 .rw[Xk h];exact Jp.2 ⟨_,c,rfl⟩
 .have e:BN (sN (GC s).a (GC s).b)=BN s:=rfl;have d:(EH p r L).getD (CG (EH p r L) (BN s)) BB=s:=c7g (b2u (Ao p r L) _) hs;rw[e,d];exact(QJ _ _ _).2 hx
theorem c58(h:CS p r L=0){s t:Sm}(hs:s∈DW p r L)(g:t∈DW p r L)(c:s.a=t.a)(d:s.b=t.b):s=t:=by
 rw[Xk h]at hs g;obtain⟨k,e,rfl⟩:=Jp.1 hs;obtain⟨f,i,rfl⟩:=Jp.1 g;have cell:∀k,k∈DX p r L->(JK (Ao p r L) ((EH p r L).getD (CG (EH p r L) (BN (sN k.a k.b))) BB)).a=k.a/\(JK (Ao p r L) ((EH p r L).getD (CG (EH p r L) (BN (sN k.a k.b))) BB)).b=k.b:=λk e=>by obtain⟨u,j,rfl⟩:=b4f.1 e;have l:DU (EH p r L) (BN (sN (GC u).a (GC u).b))=true:=Jj.2 ⟨u,j,by simp[c75]⟩;exact b6r (YP l)
 obtain⟨m,n⟩:=cell k e;obtain⟨o,q⟩:=cell f i;have:k=f:=by rw[m,o]at c;rw[n,q]at d;cases k;cases f;simp only at c d;rw[c,d]
 rw[this]
theorem c53{s t:Sm}{c d:Cl}{D E:Int}(hs:SmOK p r s)(l:SmOK p r t)(m:D=0\/D=1)(n:E=0\/E=1)(e:BJ s D=c)(f:LC s D=d)(g:BJ t E=c)(h:LC t E=d):D=E/\s.a=t.a/\s.b=t.b:=by
 have i:=hs.ab;have j:=l.ab;have k:∀{x y:Cl},BC (BO x) (BO y)<0->BC (BO y) (BO x)<0->False:=λ{x y} k1 k2=>by have:=JL (BO x) (BO y);omega
 unfold BJ LC at*;rcases m with rfl|rfl<;>rcases n with rfl|rfl
 .simp at e f g h;exact⟨rfl,e.trans g.symm,f.trans h.symm⟩
 .simp at e f g h;rw[e,f]at i;rw[g,h]at j;exact(k i j).elim
 .simp at e f g h;rw[e,f]at i;rw[g,h]at j;exact(k i j).elim
 .simp at e f g h;exact⟨rfl,f.trans h.symm,e.trans g.symm⟩
theorem b71(S:SkOK p r L)(h:CS p r L=0)(B:BE p=0){u e:Int}(hE:BX p u e)(i:AW p u e=0):∃s∈DW p r L,∃x∈s.ps,∃D:Int,(D=0\/D=1)/\ER D x=u/\ER (1-D) x=AP p u e/\BJ s D=AO p (AD p r) u/\LC s D=BA p (AD p r) u e:=by
 have hs:=S.hs;have bo:=(Sb h).1;have hx:∃s∈DW p r L,∃x∈s.ps,PaOf x u (AP p u e):=by
  have one:∀{u e:Int},BX p u e->AW p u e=0->¬AP p u e<u->∃s∈DW p r L,∃x∈s.ps,PaOf x u (AP p u e):=λ{u e} hE i k=>by
   obtain⟨⟨h0,b⟩,he,C⟩:=hE;have hN:=CR hs;obtain⟨n,rfl⟩:∃n:Nat,u=n:=⟨u.toNat,Dv⟩
   obtain⟨m,rfl⟩:∃m:Nat,e=m:=⟨e.toNat,Dv⟩
   obtain⟨s,hs',x,hx,E⟩:=b7v (p:=p) (r:=r) (L:=L) (3*AJ p.W p.H) n m Dv Dv C k i;obtain⟨t,F,G⟩:=f8z h hs' hx;exact⟨t,F,x,G,E⟩
  by_cases k:AP p u e<u
  .obtain⟨I,n2⟩:=IP hs hE;obtain⟨s,b,x,c,j⟩:=one I (by rw[LX hs B hE];exact i) Gk;rw[n2]at j;exact⟨s,b,x,c,j.symm⟩
  .exact one hE i k
 obtain⟨s,b,x,c,j⟩:=hx;have J:=(PA S h b).1;obtain⟨⟨e1,q,a2,l,v,w⟩,e2,y,b2,o,z,A⟩:=d2b S J c;have a:∀{d:Int},BX p u d->AP p u d=AP p u e->d=e:=λ{d} ry K=>by have M:=(FL hs hE.1.1 hE.1.2 hE.2.1 hE.2.2).2;have c2:=(FL hs ry.1.1 ry.1.2 ry.2.1 ry.2.2).2;have N:AG p.W p.H u d=AG p.W p.H u e:=K;rw[N,M]at c2;exact Du
 rcases j with⟨f,g⟩|⟨f,g⟩
 .rw[f]at q l v w;rw[g]at l;have:=a q l;subst this;exact⟨s,b,x,c,0,.inl rfl,f,g,v.symm,w.symm⟩
 .rw[g]at y o z A;rw[f]at o;have:=a y o;subst this;exact⟨s,b,x,c,1,.inr rfl,g,f,z.symm,A.symm⟩
theorem c2a(S:SkOK p r L)(h:CS p r L=0)(y:BE p=0){u e:Int}(hE:BX p u e)(k:AW p u e≠0):∃s∈DW p r L,∃x∈s.ls,XK x u (AP p u e)/\(x.s=0\/x.s=1)/\BJ s x.s=AO p (AD p r) u/\LC s x.s=BA p (AD p r) u e:=by
 have hs:=S.hs;have bo:=(Sb h).1;have hr:PlcG p (AD p r)\/True:=.inr trivial;have hx:∃x∈lsF (DW p r L),XK x u (AP p u e):=by
  by_cases z:AP p u e<u
  .obtain⟨A,n2⟩:=IP hs hE;obtain⟨x,b,c⟩:=f5g (r:=r) (L:=L) hs h A Gk (by rw[LX hs y hE];exact k);rw[n2]at c;exact⟨x,b,c.symm⟩
  .exact f5g hs h hE z k
 obtain⟨x,b,c⟩:=hx;obtain⟨s,l,b⟩:=Lt.1 b;have m:=(PA S h l).1;have W3:=(m.ls x b).1;obtain⟨⟨e1,n,a2,f,o,q⟩,e2,t,b2,g,v,w⟩:=YI S m b;have a:∀{d:Int},BX p u d->AP p u d=AP p u e->d=e:=λ{d} ry B=>by have C:=(FL hs hE.1.1 hE.1.2 hE.2.1 hE.2.2).2;have c2:=(FL hs ry.1.1 ry.1.2 ry.2.1 ry.2.2).2;have E:AG p.W p.H u d=AG p.W p.H u e:=B;rw[E,C]at c2;exact Du
 refine⟨s,l,x,b,c,Dv,?_⟩;rcases c with⟨i,j⟩|⟨i,j⟩
 .rw[i]at n f o q;rw[j]at f;have:=a n f;subst this;exact⟨o.symm,q.symm⟩
 .rw[j]at t g v w;rw[i]at g;have:=a t g;subst this;exact⟨v.symm,w.symm⟩
end
theorem d0z{s:Sm}{d:Int}{l:List Int}{x:Lo}(hx:x∈s.ls)(a:x.s=d):IE l x∈Po s d l:=by unfold Po HP;exact Jp.2 ⟨x,Kf.2 ⟨hx,Jf a⟩,rfl⟩
theorem Re{a b:Int}:(a<b/\CE a b= -1)\/(a=b/\CE a b=0)\/(b<a/\CE a b=1):=by
 unfold CE;rcases Int.lt_trichotomy a b with h|h|h
 .exact .inl ⟨h,Iz h⟩
 .exact .inr (.inl ⟨h,by rw[J3 Dv,J3 Dv]⟩)
 .exact .inr (.inr ⟨h,by rw[J3 Dv,Iz h]⟩)
section
variable{p:Pt}{r:Mv}{L:List Stk}
theorem c5k{s:Sm}(h:LM s L=0):(∀D:Int,D=0\/D=1->(∀x∈s.ls,x.s=D->∀z∈s.ps,¬((IE (AF L (BJ s D)) x).a<AY (AF L (BJ s D)) (ER D z)/\AY (AF L (BJ s D)) (ER D z)<(IE (AF L (BJ s D)) x).b))/\∀x∈s.ls,x.s=D->∀y∈s.ls,y.s=D->¬((IE (AF L (BJ s D)) x).a<(IE (AF L (BJ s D)) y).a/\(IE (AF L (BJ s D)) y).a<(IE (AF L (BJ s D)) x).b/\(IE (AF L (BJ s D)) x).b<(IE (AF L (BJ s D)) y).b))/\∀x∈s.ps,∀y∈s.ps,x≠y->0<=CE (AY (AF L s.a) x.a) (AY (AF L s.a) y.a)*CE (AY (AF L s.b) x.b) (AY (AF L s.b) y.b):=by
 unfold LM at h;split at h
 .cases h
 .split at h
  .cases h
  .split at h
   .cases h
   .rename_i O;have Q:Nr s L 2=false/\OH (CQ s L 0) (CQ s L 1) s.ps.length=false:=by
     rw[<-Kk];cases hq:(Nr s L 2||OH (CQ s L 0) (CQ s L 1) s.ps.length)with
     |false=>rfl
     |true=>exact absurd hq O
    obtain⟨R,J⟩:=Q;have f:IQ (Do s L 0) (CQ s L 0)=false/\IQ (Do s L 1) (CQ s L 1)=false:=Kk.1 R;refine⟨λD S=> ?_,λx hx y t T=> ?_⟩
    .obtain⟨d,w,e⟩:∃d:Nat,(d=0\/d=1)/\D=(d:Int):=by
      rcases S with rfl|rfl
      .exact⟨0,.inl rfl,rfl⟩
      .exact⟨1,.inr rfl,rfl⟩
     subst e;have hS:IQ (Do s L d) (CQ s L d)=false:=by
      rcases w with rfl|rfl
      .exact f.1
      .exact f.2
     have U:Do s L d=Po s d (AF L (BJ s d)):=by unfold Do;rw[UV d w]
     have V:CQ s L d=KL s d (AF L (BJ s d)):=by unfold CQ;rw[UV d w]
     rw[U,V]at hS;refine⟨λx hx A z W c=> ?_,λx hx A y t X c=> ?_⟩
     .obtain⟨k,B,g⟩:=HH (d:=BT.d) (d0z (l:=AF L (BJ s d)) hx A);have C:AY (AF L (BJ s d)) (ER d z)∈KL s d (AF L (BJ s d)):=Jp.2 ⟨z,W,rfl⟩;obtain⟨m,E,em⟩:=HH (d:=AC.d) C;have:=c5m (k:=k) (m:=m) B E (by
       rw[g,em];unfold Pp;rw[Jf (show _>_ from c.1),Jf c.2];rfl)
      rw[hS]at this;cases this
     .obtain⟨k,B,g⟩:=HH (d:=BT.d) (d0z (l:=AF L (BJ s d)) hx A);obtain⟨m,E,em⟩:=HH (d:=BT.d) (d0z (l:=AF L (BJ s d)) t X);rcases Lz k m with q|q|q
      .have:=c0u (P:=KL s d (AF L (BJ s d))) (k:=m) (m:=k) E q (by
        rw[g,em];unfold PH;rw[K1];right;rw[Jf c.1,Jf c.2.1,Jf c.2.2];rfl)
       rw[hS]at this;cases this
      .subst q;have Y:=g.symm.trans em;rw[Y]at c;omega
      .have:=c0u (P:=KL s d (AF L (BJ s d))) (k:=k) (m:=m) B q (by
        rw[g,em];unfold PH;rw[K1];left;rw[Jf c.1,Jf c.2.1,Jf c.2.2];rfl)
       rw[hS]at this;cases this
    .have i:∀n,n<s.ps.length->(CQ s L 0).getD n AC.d=AY (AF L s.a) (s.ps.getD n BT.d).a:=λn F=>by
      unfold CQ KL;simp only[Ix,Jr,Iy F];rfl
     have j:∀n,n<s.ps.length->(CQ s L 1).getD n AC.d=AY (AF L s.b) (s.ps.getD n BT.d).b:=λn F=>by unfold CQ KL;simp only[Ix,Jr,Iy F];rfl
     have o:∀a b,b<a->a<s.ps.length->0<=CE (AY (AF L s.a) (s.ps.getD a BT.d).a) (AY (AF L s.a) (s.ps.getD b BT.d).a)*CE (AY (AF L s.b) (s.ps.getD a BT.d).b) (AY (AF L s.b) (s.ps.getD b BT.d).b):=λa b G r=>by unfold OH at J;have K:=Jg.1 J a (Jn.2 r);rw[Bool.not_eq_true]at K;have M:=Jg.1 K b (Jn.2 G);unfold Tx at M;rw[i a r,i b Dv,j a r,j b Dv,Jb]at M;omega
     obtain⟨a,r,H⟩:=HH (d:=BT.d) hx;obtain⟨b,Z,I⟩:=HH (d:=BT.d) t;rcases Lz a b with q|q|q
     .have:=o b a q Z;rw[H,I]at this;have N:∀u v:Int,CE u v= -CE v u:=λu v=>by
       rcases @Re u v with⟨k1,k2⟩|⟨k1,k2⟩|⟨k1,k2⟩<;>rcases @Re v u with⟨k3,k4⟩|⟨k3,k4⟩|⟨k3,k4⟩<;>omega
      rw[N (AY (AF L s.a) x.a),N (AY (AF L s.b) x.b),Int.neg_mul_neg];exact this
     .subst q;exact absurd (H.symm.trans I) T
     .have:=o a b q r;rw[H,I]at this;exact this
theorem nc_crs(S:SkOK p r L)(h:CS p r L=0)(X:ErG p r L)(hc:LR L (DW p r L)=0):NcG p (AD p r) (AF L):=by
 have no:∀s∈DW p r L,LM s L=0:=λs hs=>by
  unfold LR at hc;split at hc
  .cases hc
  .rename_i hq;refine Decidable.byContradiction λq=>hq (Jj.2 ⟨s,hs,?_⟩);rw[Ji q];rfl
 have lp:∀{a k:Int} {c d:Cl},BX p a k->AW p a k≠0->AO p (AD p r) a=c->BA p (AD p r) a k=d->CC (AF L c) a (AP p a k)->∃s∈DW p r L,∃x∈s.ls,(x.s=0\/x.s=1)/\BJ s x.s=c/\LC s x.s=d/\(IE (AF L c) x).a=AY (AF L c) a/\(IE (AF L c) x).b=AY (AF L c) (AP p a k):=λ{a k c d} hE hk o A N=>by obtain⟨s,w,x,B,Z,h4,h5,h6⟩:=c2a S h X.hp hE hk;have b6:=Nt (X.F.nd c) N;refine⟨s,w,x,B,h4,h5.trans o,h6.trans A,?_⟩;unfold IE;rcases Z with⟨q1,q2⟩|⟨q1,q2⟩<;>(rw[q1,q2];dsimp only;omega)
 refine⟨λi e j k o O ki kj A N=> ?_,λi e a k o ha ki ka A w B=> ?_,λa k b m ha N ka kb A w B Z=> ?_⟩
 .obtain⟨s,g,x,Q,D,C,f,H,l,u⟩:=b71 S h X.hp o ki;obtain⟨t,I,y,R,E,T,v,z,U,V⟩:=b71 S h X.hp O kj;have X4:AO p (AD p r) j=AO p (AD p r) i:=((X.F.mem _ j).1 (Gl N).2).2;have oks:=(PA S h g).1;have okt:=(PA S h I).1;obtain⟨J,K,W⟩:=c53 oks okt C T l u (U.trans X4) (V.trans A.symm);subst J;have Y:=c58 h g I K W;subst Y;have n:=X.F.nd (AO p (AD p r) i);have b1:=Nt n N;obtain⟨pi1,pi2,pi3⟩:=LG X.hs X.G o.1 o.2.1 o.2.2 ki;obtain⟨pj1,pj2,pj3⟩:=LG X.hs X.G O.1 O.2.1 O.2.2 kj;obtain⟨ei,ei2⟩:=IP X.hs o;obtain⟨ej,M⟩:=IP X.hs O;have m1:AP p i e∈AF L (BA p (AD p r) i e):=(X.F.mem _ _).2 ⟨ei.1,pi2⟩;have m2:AP p j k∈AF L (BA p (AD p r) i e):=(X.F.mem _ _).2 ⟨ej.1,pj2.trans A.symm⟩;have W5:x≠y:=λq=>by
   rw[q,v]at f;rw[f]at b1;omega
  have P:=(c5k (no s g)).2 x Q y R W5;have key:AY (AF L (BA p (AD p r) i e)) (AP p i e)<=AY (AF L (BA p (AD p r) i e)) (AP p j k):=by
   unfold BJ at l;unfold LC at u;unfold ER at f H v z;rcases C with rfl|rfl
   .simp at f H v z l u;rw[l,u,f,H,v,z]at P;rcases @Re (AY (AF L (AO p (AD p r) i)) i) (AY (AF L (AO p (AD p r) i)) j)with⟨k1,k2⟩|⟨k1,k2⟩|⟨k1,k2⟩
    .rw[k2]at P;rcases @Re (AY (AF L (BA p (AD p r) i e)) (AP p i e)) (AY (AF L (BA p (AD p r) i e)) (AP p j k))with⟨k3,k4⟩|⟨k3,k4⟩|⟨k3,k4⟩
     .omega
     .omega
     .rw[k4]at P;omega
    .omega
    .omega
   .simp at f H v z l u;rw[l,u,f,H,v,z]at P;rcases @Re (AY (AF L (AO p (AD p r) i)) i) (AY (AF L (AO p (AD p r) i)) j)with⟨k1,k2⟩|⟨k1,k2⟩|⟨k1,k2⟩
    .rw[k2]at P;rcases @Re (AY (AF L (BA p (AD p r) i e)) (AP p i e)) (AY (AF L (BA p (AD p r) i e)) (AP p j k))with⟨k3,k4⟩|⟨k3,k4⟩|⟨k3,k4⟩
     .omega
     .omega
     .rw[k4]at P;omega
    .omega
    .omega
  rcases Int.lt_or_eq_of_le key with q|q
  .exact II (FM.2 m1) q
  .exfalso;have J:=b6h (FM.2 m1) q;have o1:BA p (AD p r) (AP p i e) e=AO p (AD p r) i:=pi3;have o2:BA p (AD p r) (AP p j k) k=AO p (AD p r) i:=pj3.trans X4;rw[<-J]at o2 M;have K:=c4g X.hs X.G ei.1 o.2.1 O.2.1 (o1.trans o2.symm);subst K;rw[ei2]at M;subst M;omega
 .obtain⟨s,g,x,Q,D,C,f,H,l,u⟩:=b71 S h X.hp o ki;have hca:AO p (AD p r) a=AO p (AD p r) i:=((X.F.mem _ a).1 (Gl w).1).2;have n:=X.F.nd (AO p (AD p r) i);obtain⟨t,I,y,R,T,v,z,U,V⟩:=lp ha ka hca A (WS n w B);obtain⟨J,K,W⟩:=c53 (PA S h g).1 (PA S h I).1 C T l u v z;have Y:=c58 h g I K W;subst Y;have:=(c5k (no s g)).1 D C;refine this.1 y R J.symm x Q ?_;rw[l,f,U,V];exact⟨Nt n w,Nt n B⟩
 .have n:=X.F.nd (AO p (AD p r) a);have tw:AO p (AD p r) b=AO p (AD p r) a:=((X.F.mem _ b).1 (Gl w).2).2;obtain⟨s,g,x,Q,C,f,H,l,u⟩:=lp ha ka rfl rfl (WS n w B);obtain⟨t,I,y,R,T,v,z,U,V⟩:=lp N kb tw A.symm (WS n B Z);obtain⟨J,K,W⟩:=c53 (PA S h g).1 (PA S h I).1 C T f H v z;have Y:=c58 h g I K W;subst Y;have:=(c5k (no s g)).1 x.s C;refine this.2 x Q rfl y R J.symm ?_;rw[f,l,u,U,V];exact⟨Nt n w,Nt n B,Nt n Z⟩
theorem kd_se(S:SkOK p r L)(h:CS p r L=0)(X:ErG p r L)(h12:∀a k,BX p a k->AW p a k≠0->AW p a k=1\/AW p a k=2)(u:MV p (FP p r) (MI p.l) (DW p r L)=false):Of p (AD p r) (AF L):=by
 intro a k c f B;obtain⟨s,v,x,w,C,s4,s5,s6⟩:=c2a S h X.hp c f;have E:=X.F.nd (AO p (AD p r) a);obtain⟨e,g1,I,g,i,j⟩:=f72 S h (Lt.2 ⟨s,v,w⟩:x∈lsF (DW p r L));have y:x.a=a/\x.b=AP p a k:=by
  rcases C with q|⟨J,K⟩
  .exact q
  .exfalso;rw[J,K]at i;have M:=(LS X.hs X.G c.1 c.2.1 c.2.2 f).1;have m:AO p (AD p r) (AP p a k)=AO p (AD p r) a:=M;rw[m]at i;exact WO E B i
 rw[y.1]at g1 I g j;rw[y.2]at g j;have N:e=k:=by have O:=(FL X.hs c.1.1 c.1.2 c.2.1 c.2.2).2;have z:=(FL X.hs g1.1.1 g1.1.2 g1.2.1 g1.2.2).2;have n:AG p.W p.H a e=AG p.W p.H a k:=g;rw[n,O]at z;exact(UZ (IA X.hs c.1.1 c.1.2).2.2.1 c.2.1 g1.2.1 z).symm
 subst N;unfold MV at u;have o:=Jg.1 u s v;unfold Tt at o;rw[Bool.not_eq_true]at o;have d:=Jg.1 o x w;rw[j]at d;unfold Vw at d;rw[c91 X.hp c.2.2]at d;have k12:=h12 a e c f;have A:¬((!decide (AW p a e=3)&& !decide (AW p a e=if(AD p r (AP p a e)).t<4 then 1 else 2))=true):=d;have P:¬AW p a e=3:=Dv;rw[Ji P]at A;refine Decidable.byContradiction λq=>A ?_;rw[Ji q];rfl
theorem chk_er(h:CS p r L=0)(j:0<=r.t)(f:∀s∈L,AE .u8 s.c.q)(h12:∀a k,BX p a k->AW p a k≠0->AW p a k=1\/AW p a k=2):FS p r L=NN p r L:=by
 have S:=d6b h j f;have n:BE p=0:=(Qi (Sb h).1).1;have F:=US S;have X:ErG p r L:=⟨S.hs,n,(c2h j (Sb h).1).1,F,b50 S.lt⟩
 have o:∀i,i<L.length->CO (L.getD i AA.d).c:=λi u=>(S.vc _ (BW u)).2.2;unfold FS;rw[J3 (λq=>q h)];by_cases N:NcG p (AD p r) (AF L)
 .rw[J3 (λq=>q (f5j S h N))];have g:(List.range (3*L.length)).any (KG p r L)=false:=by
   rw[Jg];intro m b;rw[f4h X o N (Jn.1 b)];decide
  by_cases D:Of p (AD p r) (AF L)
  .rw[se_ok S h n D,g1b X o N D];rfl
  .cases hs:MV p (FP p r) (MI p.l) (DW p r L)with
   |false=>exact absurd (kd_se S h X h12 hs) D
   |true=>
    cases he:Pm p r L (3*L.length)with
    |false=>
     refine absurd (kd_of X h12 λm b=> ?_) D;unfold Pm at he;have:=Jg.1 he m (Jn.2 b);rw[Bool.not_eq_true]at this;exact this
    |true=>
     unfold NN;rw[g,he];rfl
 .have e:¬LR L (DW p r L)=0:=λq=>N (nc_crs S h X q);rw[Iz e];have g:(List.range (3*L.length)).any (KG p r L)=true:=by
   cases hx:(List.range (3*L.length)).any (KG p r L)with
   |true=>rfl
   |false=>
    refine absurd (nc_of X λm b=> ?_) N;have:=Jg.1 hx m (Jn.2 b);rw[Bool.not_eq_true]at this;exact this
  have v:NN p r L=12:=by unfold NN;rw[if_pos g]
  rw[v];unfold LR at e⊢;split
  .rfl
  .rename_i q;rw[J3 q]at e;exact absurd rfl e
end
theorem f0f{A B:List Stk}{s:Stk}:BG (A++s::B)=BG A++(s.l++BG B):=by unfold BG;rw[List.flatMap_append,List.flatMap_cons]
section
variable{p:Pt}{r:Mv}{A B C:List Stk}{s t:Stk}{b:Int}
theorem StG.flen{L:List Stk}(X:StG p r L (AD p r) b):((BG L).length:Int)=EA p.W p.H:=by have hN:=CR X.hs;have h1:=X.flat_len;have h2:=d26 (AJ p.W p.H) (BG L) λx a h3=>(X.flat_mem x).2 ⟨a,Dv⟩;unfold EA;rw[Iz X.hs];omega
end
section
variable{p:Pt}{r:Mv}{L:List Stk}{b:Int}{k:Nat}
end
def QZ(p:Pt)(r:Mv)(L:List Stk)(i:Int):Int:=if FS p r L=0 then(if i<0\/((FP p r).length:Int)<=i then 7 else 0)else FS p r L
def TX(p:Pt)(r:Mv)(L:List Stk)(i:Int):Bool:=if QZ p r L i=0 then(FP p r).getD i.toNat GM.d else false
def Xi:AM
 | [x,.int .i64 i]=>(Ox x).map λq=>(q.1,.tup [.bool (TX q.2.1 q.2.2.1 q.2.2.2 i),.int .i64 (QZ q.2.1 q.2.2.1 q.2.2.2 i)])
 |_=>none
def FStUp:Fam:=⟨(Pt×Mv×List Stk)×Int,λ((p,r,L),i)=>[.agg (Fo p r L),.int .i64 i],λ((p,r,L),_)=>prOK p r/\FK L,λ((p,r,L),i)=>.tup [.bool (TX p r L i),.int .i64 (QZ p r L i)]⟩
theorem g1e{p:Pt}{r:Mv}{L:List Stk}(h:FS p r L=0):CS p r L=0:=by
 unfold FS at h;split at h
 .exact h
 .rename_i a;exact Decidable.not_not.1 a
theorem pStUp:PS 15 Xi:=by
 refine con [(12,TA),(44,kUp)] (by simpa using⟨c5u,pUp⟩) FStUp (λ_ _=>none) Xi ?_ ?_ Tryz.func15 Dw Dw Dw ?_
 .intro args pre s h d;unfold Xi at h;split at h
  .rename_i x i;simp only[Ic]at h;obtain⟨⟨q,p,r,L⟩,hx,rfl,rfl⟩:=h;obtain⟨h1,b,f⟩:=Sx hx d;exact⟨((p,r,L),i),⟨h1,E4,J5⟩,⟨b,f⟩,rfl⟩
  .cases h
 .exact Bz
 .rintro⟨⟨p,r,L⟩,i⟩ ⟨c9,c8⟩;refine X0 _ ?_;(repeat' first|constructor|intro h)<;>refine Lm ?_
  all_goals(try simp only[CU,RT.lst_row,OC,Ns]at*)
  .exact Dq
  iterate 2
   .have a:¬FS p r L=0:=E2;have e:QZ p r L i=FS p r L:=J3 a;first|exact e.symm|(unfold TX;rw[e,if_neg a];done)
  .exact⟨⟨⟨FF _,c9.1.1⟩,c9.1.2⟩,c9.2⟩
  iterate 2
   .rename_i h1;have a:FS p r L=0:=Es;have b:¬CH p r=0:=E2;exact absurd ((Sb (g1e a)).1) b
  iterate 2
   .rename_i h1 b;have a:FS p r L=0:=Es;have c:i<0\/((FP p r).length:Int)<=i:=E2;have e:QZ p r L i=7:=by unfold QZ;rw[if_pos a,if_pos c]
    first|exact e.symm|(unfold TX;rw[e];rfl)
  all_goals
   rename_i h1 b;have a:FS p r L=0:=Es;have c:¬(i<0\/((FP p r).length:Int)<=i):=by
    intro g;have:(decide (i<0)||decide (((FP p r).length:Int)<=i))=true:=by simpa using g
    rw[this]at h;cases h
   have e:QZ p r L i=0:=by unfold QZ;rw[if_pos a,if_neg c]
   first
    |omega
    |exact e.symm
    |(unfold TX;rw[e,if_pos rfl];done)
    |skip
def PG(p:Pt)(r:Mv)(L:List Stk)(k C:Int):Int:=if¬FS p r L=0 then FS p r L else if¬FY k C=0 then 1 else MQ p r L (EW k C)
def flpS(L:List Stk)(k C:Int):List Stk:=(KM (EW k C) L).map Pb
def rFlp(p:Pt)(r:Mv)(L:List Stk)(k C:Int):SV:=.tup [.agg (Fo (zP (PG p r L k C) p) (zR (PG p r L k C) (HC r (EW k C))) (zL (PG p r L k C) (flpS L k C))),.int .i64 (PG p r L k C)]
def kFlp:AM
 | [x,.agg [.int .u8 k,.int .i64 C]]=>(Ox x).map λq=>(q.1,rFlp q.2.1 q.2.2.1 q.2.2.2 k C)
 |_=>none
def FFlp:Fam:=⟨(Pt×Mv×List Stk)×Int×Int,λ((p,r,L),k,C)=>[.agg (Fo p r L),.agg [.int .u8 k,.int .i64 C]],λ((p,r,L),_)=>prOK p r/\FK L,λ((p,r,L),k,C)=>rFlp p r L k C⟩
theorem mvd_in{p:Pt}{r m:Mv}{L:List Stk}(h:FK L)(a:MQ p r L m=0):FK (KM m L):=by
 unfold MQ at a;split at a
 .cases a
 .exact mv_in h Dv
theorem mvd_z{p:Pt}{r m:Mv}{L:List Stk}(h:FK L):FN (zL (MQ p r L m) (KM m L)):=by
 unfold zL;split
 .exact(mvd_in h Dz).1
 .exact⟨Je _,λs hs=>nomatch hs⟩
theorem pFlp:PS 23 kFlp:=by
 refine con [(12,TA),(55,d6s),(46,kMvd),(56,c6f)] (by simpa using⟨c5u,pMvOf,pMvd,pStRev⟩) FFlp (λ_ _=>none) kFlp ?_ ?_ Tryz.func23 Dw Dw Dw ?_
 .intro args pre s h f;unfold kFlp at h;split at h
  .rename_i x k C;simp only[Ic]at h;obtain⟨⟨q,p,r,L⟩,hx,rfl,rfl⟩:=h;obtain⟨g,j,l⟩:=Sx hx f;exact⟨((p,r,L),k,C),⟨g,Eb,J5⟩,⟨j,l⟩,rfl⟩
  .cases h
 .exact Bz
 .rintro⟨⟨p,r,L⟩,k,C⟩ ⟨m,d⟩;have e:=SW m d;have b:=d74 k C;have n:=@mvd_z p r (EW k C) L d;refine X0 _ ?_;(repeat' first|constructor|intro h)<;>refine Lm ?_
  all_goals(try simp only[show (⟨keep (FY k C) (Og k),keep (FY k C) (RE k C),keep (FY k C) (Ri k C)⟩:Mv)=EW k C from rfl,RT.lst_row,CU,Ns,OC,Ib,Ig]at*)
  all_goals(try first
   |exact e
   |exact⟨e,b⟩
   |exact b
   |exact λ_=>b
   |omega)
  all_goals first
   |exact d49 n
   |(have a:PG p r L k C=FS p r L:=by
      unfold PG;rw[Iz Dz]
     simp only[zP,zR,zL,a,J3 ‹¬ FS p r L=0›];all_goals first|exact B6)
   |(have a:PG p r L k C=1:=by
      unfold PG;rw[J3 (λq=>q ‹FS p r L=0›),Iz Dz]
     simp only[zP,zR,zL,a];all_goals first|exact B6)
   |(have a:PG p r L k C=MQ p r L (EW k C):=by
      unfold PG;rw[J3 (λq=>q ‹FS p r L=0›),J3 (λq=>q ‹FY k C=0›)]
     first
      |(have c:¬MQ p r L (EW k C)=0:=by assumption
        simp only[zP,zR,zL,a,J3 c];all_goals first|exact B6)
      |(have c:MQ p r L (EW k C)=0:=by assumption
        simp only[zP,zR,zL,a,c,Ke,flpS];all_goals first|exact A2))
   |skip
def c5y(W H:Int):Pt:=⟨keep (AV W H) W,keep (AV W H) H,[]⟩
def c7s:AM
 | [.agg [.int .i64 W,.int .i64 H]]=>some (True,.tup [Eo (c5y W H),.int .i64 (AV W H)])
 |_=>none
def FEmpty:Fam:=⟨Int×Int,λ(W,H)=>[.agg [.int .i64 W,.int .i64 H]],λ_=>True,λ(W,H)=>.tup [Eo (c5y W H),.int .i64 (AV W H)]⟩
theorem pEmpty:PS 70 c7s:=by
 refine con [(96,QF)] (by simpa using Tl) FEmpty (λ_ _=>none) c7s ?_ ?_ Tryz.func70 Dw Dw Dw ?_
 .intro args pre s h a;unfold c7s at h;split at h
  .rename_i W H;cases h;exact⟨(W,H),⟨Eb,J5⟩,J5,rfl⟩
  .cases h
 .exact C0
 .rintro⟨W,H⟩ a;have k0:AV W H=0->∀v,keep (AV W H) v=v:=λh v=>by unfold keep;rw[if_pos h]
  have k1:¬AV W H=0->∀v,keep (AV W H) v=0:=λh v=>by unfold keep;rw[if_neg h]
  refine X0 _ ?_;(repeat' first|constructor|intro h)<;>refine Lm ?_
  all_goals(try simp only[Ib,Ig]at*)
  all_goals(first
   |rfl
   |exact(k0 Dz _).symm
   |exact(k1 Dz _).symm
   |assumption
   |(symm;assumption)
   |skip)
theorem c6c{x:SV}{q:Prop}{L:List Stk}(h:SC x=some (q,L))(a:q):x.le2 (DJ L):=by unfold SC at h;simp only[Ic]at h;obtain⟨⟨n,f⟩,hx,rfl,rfl⟩:=h;exact Hl (AA.as_le hx a.1)
theorem ov_of(O:OS)(j:Nat):AA.of (MS O j)=(O.getD j dO).1:=by have:AC.lst (O.getD j dO).1.l.length (AC.row (O.getD j dO).1.l)=(O.getD j dO).1.l:=RT.lst_row _ _;show Tq (MS O j)=_;unfold MS;have h:AC.as (.sl 1 (O.getD j dO).1.l.length (AC.row (O.getD j dO).1.l) (if(O.getD j dO).2=true then some (O.getD j dO).1.l.length else none))=some ((O.getD j dO).1.l.length,AC.row (O.getD j dO).1.l):=rfl;simp only[Tq,h,this]
theorem f40(O:OS):AA.lst O.length (MS O)=O.map (·.1):=by
 apply Ms
 .simp[RT.lst]
 .intro i h1 a;have b:i<O.length:=by simpa using a
  simp[RT.lst,ov_of,b]
theorem ov_isL(O:OS):AA.isL O.length (MS O):=by intro i _;rw[ov_of];exact .inr ⟨by simp[SV.lf],by simp[SV.lf],by simp[SV.lf],⟨rfl,Et,J5,λ_ _=>rfl⟩,J5⟩
theorem ov_set{O:OS}{k q:Nat}{d:Cl}{a b:List Int}(g:k<O.length)(hl:a=(O.getD k dO).1.l)(i:(O.getD k dO).1.c=d):
 FU (DC (decide (q=k)) [.int .i64 (O.getD k dO).1.c.x,.int .i64 (O.getD k dO).1.c.y,.int .u8 (O.getD k dO).1.c.q,.sl 1 (a.length+b.length) (λj=>if j<a.length then AC.row a j else AC.row b (j-a.length)) none] (MS O q)) (MS (O.set k (⟨d,a++b⟩,false)) q):=by
 by_cases e:q=k
 .subst e;rw[Jf rfl];have f:(O.set q (⟨d,a++b⟩,false)).getD q dO=(⟨d,a++b⟩,false):=by simp[g]
  have m:MS (O.set q (⟨d,a++b⟩,false)) q=[.int .i64 d.x,.int .i64 d.y,.int .u8 d.q,.sl 1 (a++b).length (AC.row (a++b)) none]:=by unfold MS;rw[f];rfl
  rw[m,i];refine .inr ⟨rfl,rfl,rfl,⟨Jx.symm,Et,J5,λj _=> ?_⟩,J5⟩;exact c3j AC a b j
 .rw[Ji e];left;have f:(O.set k (⟨d,a++b⟩,false)).getD q dO=O.getD q dO:=by simp[Jh (Ne.symm e)]
  unfold MS;rw[f];rfl
theorem ov_app{O:OS}{x:Stk}{j:Nat}(hj:j<O.length+1):FU (if j<O.length then MS O j else(List.map (λx:Nat×List SV=>x.snd) [(0,[.int .i64 x.c.x,.int .i64 x.c.y,.int .u8 x.c.q,.sl 1 x.l.length (AC.row x.l) (some x.l.length)])].reverse).getD (j-O.length) []) (MS (O++[(x,true)]) j):=by
 left;by_cases e:j<O.length
 .rw[Iz e];unfold MS;simp[Jc e]
 .have:j=O.length:=Dv;subst this;rw[J3 e,Ks];unfold MS;simp[]
theorem f1a{O:OS}{x:Stk}(h:Fl O (FI x.c)=none)(q:List Int):KA (Ti O) (FI x.c) q=Ti (QD O x) q:=by
 unfold KA Ti;rw[c5r h];by_cases e:q=FI x.c
 .rw[Iz e,Jf e];rfl
 .rw[J3 e,Ji e];rfl
theorem f91{S:List Stk}{i q:Nat}{c:Option Nat}:FU (DC (decide (q=i)) [.int .i64 (S.getD i AA.d).c.x,.int .i64 (S.getD i AA.d).c.y,.int .u8 (S.getD i AA.d).c.q,.sl 1 (S.getD i AA.d).l.length (AC.row (S.getD i AA.d).l) c] (AA.row S q)) (AA.row S q):=by
 by_cases e:q=i
 .subst e;rw[Jf rfl];right;exact⟨rfl,rfl,rfl,⟨rfl,Et,Gp,λ_ _=>rfl⟩,J5⟩
 .rw[Ji e];left;rfl
def f2w:AM
 | [x,y]=>match SC x,SC y with
   |some (p,A),some (q,B)=>some ((p/\q)/\RP (A++B),.sl 4 (Il (A++B)).length (AA.row (Il (A++B))) (some (Il (A++B)).length))
   |_,_=>none
 |_=>none
def FOver:Fam:=⟨List Stk×List Stk,λ(A,B)=>[DJ A,DJ B],λ(A,B)=>(FN A/\FN B)/\RP (A++B),λ(A,B)=>.sl 4 (Il (A++B)).length (AA.row (Il (A++B))) (some (Il (A++B)).length)⟩
def ovMap(O:OS):Blk:=.map (.ints [.i64,.i64,.u8]) false (Ti O) (λq=>[.int .i64 (TN O q)])
def IOver:List Stk×List Stk->Nat->Option Inv
 |(A,B),4=>some {β:=Nat,ok:=λi=>i<=(A++B).length,st:=λi=>⟨[⟨18,none,.int .i64 i⟩,⟨17,none,.int .i64 (A++B).length⟩,⟨16,none,DJ (A++B)⟩,⟨6,none,.osl 2⟩,⟨5,none,.omp 0⟩],[ovMap (oF (A++B) i),.dead,.row 41 4 (oF (A++B) i).length (MS (oF (A++B) i)) none]⟩,μ:=λi=>(A++B).length-i,nl:=[.slot 6 41 4]}
 |(A,B),15=>some {β:=Nat,ok:=λi=>i<=(Il (A++B)).length,st:=λi=>⟨[⟨61,none,.int .i64 i⟩,⟨60,none,.int .i64 (Il (A++B)).length⟩,⟨6,none,.osl 2⟩],[.dead,.dead,.row 41 4 (Il (A++B)).length (AA.row (Il (A++B))) none]⟩,μ:=λi=>(Il (A++B)).length-i}
 |_,_=>none
theorem pOver:PS 73 f2w:=by
 refine Np {l:=[(97,b8t),(87,c0j),(102,b0r),(101,b1m)],x:=[(98,c11)],fz:=λd=>Nat.beq d 16||Nat.beq d 74,gr:=λid=>bif Nat.beq id 9 then [.fz 4,.flat 2]else []} ⟨by simpa using⟨g0p,f7q,c5i,d0c⟩,by simpa using f8d,Dx⟩ FOver IOver f2w ?_ ?_ Tryz.func73 Dw Dw Dw ?_
 .intro args pre s h K;unfold f2w at h;split at h
  .rename_i x y;split at h
   .rename_i p A q B hx C;cases h;obtain⟨⟨E,F⟩,M⟩:=K;exact⟨(A,B),⟨c6c hx E,c6c C F,J5⟩,⟨⟨(b4u hx E).2,(b4u C F).2⟩,M⟩,rfl⟩
   .cases h
  .cases h
 .exact Bz
 .rintro⟨A,B⟩ ⟨⟨G,H⟩,I⟩;have N:=I;obtain⟨O,hn,r,P⟩:=N;refine X0 _ ?_;(repeat' first|constructor|intro h)<;>refine Lm ?_
  .refine⟨⟨⟨AA.is_row _,G.1,λs hs=>G.2 s (by rwa[RT.lst_row]at hs)⟩,AA.is_row _,H.1,λs hs=>H.2 s (by rwa[RT.lst_row]at hs)⟩,?_⟩;rw[RT.lst_row,RT.lst_row,<-Jx];exact O
  simp only[RT.lst_row];generalize g:A++B=L at*;refine⟨(0:Nat),Je _,?_,?_⟩
  .refine X0a _ ?_;(repeat' first|constructor|intro h)<;>refine Lm ?_
   all_goals first|rfl|exact Bp|exact A4|(intro q b;exact absurd b (Jq _))|(intro q b;cases b)|skip
  .intro i f;replace f:i<=L.length:=f;have hF:=(VT (L:=L) i f).1;rcases N9 i L.length with j|s9
   .have hx:L.getD i AA.d∈L:=by rw[Ix,Iy j,Kn];exact K2 j
    have b9:(L.getD i AA.d).l.length≠0:=λe=>(r _ hx).2.1 (Kp e);have Q:(L.getD i AA.d).l.length<=100000:=(r _ hx).2.2;cases hf:Fl (oF L i) (FI (L.getD i AA.d).c)with
    |some k=>
     have t:Ti (oF L i) [(L.getD i AA.d).c.x,(L.getD i AA.d).c.y,(L.getD i AA.d).c.q]=true:=by show (Fl (oF L i) (FI (L.getD i AA.d).c)).isSome=true;rw[hf];rfl
     have u:TN (oF L i) [(L.getD i AA.d).c.x,(L.getD i AA.d).c.y,(L.getD i AA.d).c.q]=k:=by show (((Fl (oF L i) (FI (L.getD i AA.d).c)).getD 0:Nat):Int)=k;rw[hf];rfl
     obtain⟨J,R⟩:=VX hf;have T:=c02 R;obtain⟨U,zj⟩:=P i k j hf;all_goals refine X0a _ ?_;(repeat' first|constructor|intro h)<;>refine Lm ?_
     all_goals(try simp only[Ia,t,u]at*)
     all_goals(try first
      |contradiction
      |exact By
      |exact Aw
      |(show k<(oF L i).length;exact J)
      |(intro b;cases b)
      |(refine⟨by rw[Iz U],.inr Dv,Dv,?_⟩;exact MU Dw Dv))
     .refine⟨i+1,Dv,Dv,?_⟩;simp only[Wo j];refine X0a _ ?_;(repeat' first|constructor|intro h)<;>refine Lm ?_
      all_goals first
       |rfl
       |omega
       |(intro q;unfold Ti;rw[d6t hf])
       |(intro q _;unfold TN;rw[d6t hf])
       |(rw[Sw hf,Kj])
       |(intro q _;rw[Sw hf];exact ov_set J rfl T)
       |exact A4
       |skip
    |none=>
     have t:Ti (oF L i) [(L.getD i AA.d).c.x,(L.getD i AA.d).c.y,(L.getD i AA.d).c.q]=false:=by show (Fl (oF L i) (FI (L.getD i AA.d).c)).isSome=false;rw[hf];rfl
     have u:TN (oF L i) [(L.getD i AA.d).c.x,(L.getD i AA.d).c.y,(L.getD i AA.d).c.q]=0:=by show (((Fl (oF L i) (FI (L.getD i AA.d).c)).getD 0:Nat):Int)=0;rw[hf];rfl
     all_goals refine X0a _ ?_;(repeat' first|constructor|intro h)<;>refine Lm ?_
     all_goals(try simp only[Ia,t,u]at*)
     all_goals(try first
      |contradiction
      |exact By
      |exact Aw
      |exact⟨AC.isL_row _,Q⟩
      |(intro _;kernel_rfl)
      |exact A9)
     .refine⟨i+1,Dv,Dv,?_⟩;simp only[Wo j];refine X0a _ ?_;(repeat' first|constructor|intro h)<;>refine Lm ?_
      all_goals first
       |rfl
       |omega
       |(rw[TF hf];simp;done)
       |exact f1a hf
       |(intro q _
         show DC (decide (q=FI (L.getD i AA.d).c)) [SV.int .i64 ((oF L i).length:Nat)] [SV.int .i64 (TN (oF L i) q)]=[SV.int .i64 (TN (QD (oF L i) (L.getD i AA.d)) q)];unfold TN;rw[c5r hf];by_cases e:q=FI (L.getD i AA.d).c
         .rw[Iz e,Jf e];rfl
         .rw[J3 e,Ji e];rfl)
       |(simp only[RT.lst_row];intro q b;rw[TF hf];exact ov_app b)
       |exact A4
       |skip
   .have e:i=L.length:=Dv;subst e;refine X0a _ ?_;(repeat' first|constructor|intro h)<;>refine Lm ?_
    all_goals(try simp only[Ia]at*)
    all_goals(try(exfalso;omega))
    .have m:=VT (L:=L) L.length (J9 _);rw[f40];refine⟨ov_isL _,Dv,λs hs=> ?_,oF_key (J9 _)⟩;obtain⟨o,V,rfl⟩:=Jp.1 hs;exact m.2.2.1 o V (λc=>AE .u8 c.q) (λs hs=>(r s hs).1)
    .simp only[g,f40];have m:=(VT (L:=L) L.length (J9 _)).1;have W:=@g0b L;have v:=f6i I;have w:GZ RL ((oF L L.length).map (·.1))=Il L:=rfl;rw[w,<-W];generalize z:Il L=S at*;have n:Il (A++B)=S:=by rw[g];exact z
     refine⟨(0:Nat),Je _,?_,?_⟩
     .exact X0g
     .intro i f;replace f:i<=S.length:=f;have hx:i<S.length->(S.getD i AA.d).l.length<=100000:=λh=>v _ H8;refine X0a _ ?_;(repeat' first|constructor|intro h)<;>refine Lm ?_
      all_goals(try simp only[Ia,RT.lst_row]at*)
      all_goals(try first
       |exact Aw
       |(show i<S.length;omega)
       |exact⟨AC.isL_row _,hx Dv⟩
       |exact A4
       |(rw[n];done)
       |(rw[n];exact λ_ _=>.inl rfl))
      refine⟨i+1,Dv,Dv,?_⟩;all_goals refine X0a _ ?_;(repeat' first|constructor|intro h)<;>refine Lm ?_
      all_goals(try simp only[Jk,RT.lst_row])
      all_goals first
       |exact Aq
       |(intro q _;exact f91)
       |skip
def r0:Mv:=⟨0,0,0⟩
def NS(W H:Int):Int:=if AV W H=0 then CH ⟨W,H,[]⟩ r0 else AV W H
def FG(W H:Int):List Stk:=(CF ⟨W,H,[]⟩ r0).mapIdx λi c=>⟨c,[(i:Int)]⟩
def OQ(W H:Int):Pt:=if NS W H=0 then⟨W,H,[]⟩else⟨0,0,[]⟩
def Ok(W H:Int):List Stk:=if NS W H=0 then Il (FG W H)else []
def Pf(l:List Stk)(i q:Nat):List SV:=[.int .i64 (if q<i then(l.getD q AA.d).c.x else 0),.int .i64 (if q<i then(l.getD q AA.d).c.y else 0),.int .u8 (if q<i then(l.getD q AA.d).c.q else 0),if q<i then .sl 1 (l.getD q AA.d).l.length (AC.row (l.getD q AA.d).l) none else .con (.slice none 0 0)]
theorem f02{l:List Stk}{i q:Nat}(h:q<i):Pf l i q=AA.sv (l.getD q AA.d):=by simp only[Pf,Iz h];rfl
theorem f10{l:List Stk}{i q:Nat}(h:¬q<i):Pf l i q=d1q:=by simp only[Pf,J3 h];rfl
theorem f4i{l:List Stk}{q:Nat}(h:q<l.length):Pf l l.length q=AA.row l q:=by rw[f02 h];rfl
theorem c3b{W H:Int}{i:Nat}(h:i<(FG W H).length):(FG W H).getD i AA.d=⟨(CF ⟨W,H,[]⟩ r0).getD i DE.d,[(i:Int)]⟩:=by
 have k:i<(CF ⟨W,H,[]⟩ r0).length:=by unfold FG at h;rwa[List.length_mapIdx]at h
 unfold FG;simp[k]
theorem f7k{W H:Int}{i q:Nat}(hi:i<(FG W H).length):FU (DC (decide (q=i)) [.int .i64 ((CF ⟨W,H,[]⟩ r0).getD i DE.d).x,.int .i64 ((CF ⟨W,H,[]⟩ r0).getD i DE.d).y,.int .u8 ((CF ⟨W,H,[]⟩ r0).getD i DE.d).q,.sl 1 1 (λj=>(List.map (λx:Nat×List SV=>x.snd) [(0,[SV.int .i64 (i:Int)])].reverse).getD j []) (some 1)] (Pf (FG W H) i q)) (Pf (FG W H) (i+1) q):=by
 by_cases e:q=i
 .subst e;rw[f02 (Nat.lt_succ_self _),f10 (M7 _),Jf rfl,c3b hi];right;refine⟨rfl,rfl,rfl,⟨rfl,Et,J5,λj hj=> ?_⟩,J5⟩;obtain rfl:j=0:=Dv;rfl
 .left;rw[Ji e];by_cases h:q<i
  .rw[f02 h,f02 Dv];rfl
  .rw[f10 h,f10 Dv];rfl
theorem fl_lst{l:List Stk}:AA.lst l.length (Pf l l.length)=l:=by
 have e:AA.lst l.length (Pf l l.length)=AA.lst l.length (AA.row l):=by simp only[RT.lst];apply List.map_congr_left;intro q hq;rw[f4i G3]
 rw[e,RT.lst_row]
theorem fl_is{l:List Stk}:AA.is l.length (Pf l l.length):=by intro q a;rw[f4i a];exact AA.is_row l q a
theorem fl_nil:AA.lst 0 (λ_=>[])=[]:=rfl
theorem fl_is0:AA.is 0 (λ_=>[]):=λi a=>absurd a (Jq i)
def flC(W H:Int):List Blk:=[.cells 26 [.int .i64 W,.int .i64 H],.cells 34 [.int .i64 0,.int .i64 0,.con (.slice none 0 0),.int .u8 0,.int .i64 0,.int .i64 0,.con (.slice none 0 0)],.cells 29 [.int .i64 W,.int .i64 H,.sl 3 0 (DZ []) none]]
def Wz(p:Pt)(r:Mv)(L:List Stk):List SV:=[.int .i64 p.W,.int .i64 p.H,.sl 3 p.l.length (DZ p.l) none,.int .u8 r.t,.int .i64 r.x,.int .i64 r.y,.sl 4 L.length (AA.row L) (some L.length)]
def c55:AM
 | [.agg [.int .i64 W,.int .i64 H]]=>some (AV W H=0->CH ⟨W,H,[]⟩ r0=0->RP (FG W H),.tup [.agg (Wz (OQ W H) r0 (Ok W H)),.int .i64 (NS W H)])
 |_=>none
def f7r:Fam:=⟨Int×Int,λ(W,H)=>[.agg [.int .i64 W,.int .i64 H]],λ(W,H)=>AV W H=0->CH ⟨W,H,[]⟩ r0=0->RP (FG W H),λ(W,H)=>.tup [.agg (Wz (OQ W H) r0 (Ok W H)),.int .i64 (NS W H)]⟩
def f9v:Int×Int->Nat->Option Inv
 |(W,H),9=>some {β:=Nat,ok:=λi=>i<=(FG W H).length,st:=λi=>⟨[⟨34,none,.int .i64 i⟩,⟨33,none,.int .i64 (FG W H).length⟩,⟨32,none,.sl 3 (CF ⟨W,H,[]⟩ r0).length (DE.row (CF ⟨W,H,[]⟩ r0)) none⟩,⟨7,none,.osl 3⟩,⟨4,none,.own 2 0⟩,⟨2,none,.own 1 0⟩],flC W H++[.row 41 4 (FG W H).length (Pf (FG W H) i) (some (FG W H).length)]⟩,μ:=λi=>(FG W H).length-i}
 |_,_=>none
theorem d20:PS 31 c55:=by
 refine Np {l:=[(70,c7s),(72,b31),(71,XY),(73,f2w)],fz:=λd=>Nat.beq d 49,gr:=λid=>bif Nat.beq id 11 then [.fz 5,.flat 3]else(bif Nat.beq id 13 then [.orders]else [])} ⟨by simpa using⟨pEmpty,d7f,c4d,pOver⟩,Dx,Dx⟩ f7r f9v c55 ?_ ?_ Tryz.func31 Dw Dw Dw ?_
 .intro args pre s h g;unfold c55 at h;split at h
  .rename_i W H;cases h;exact⟨(W,H),⟨Eb,J5⟩,g,rfl⟩
  .cases h
 .exact C0
 .rintro⟨W,H⟩ g;replace g:AV W H=0->CH ⟨W,H,[]⟩ r0=0->RP (FG W H):=g;have k0:AV W H=0->c5y W H=⟨W,H,[]⟩:=λh=>by unfold c5y keep;rw[if_pos h,if_pos h]
  have n:(FG W H).length=(CF ⟨W,H,[]⟩ r0).length:=Hk;by_cases hs:AV W H=0
  .have k1:=k0 hs;by_cases e:CH ⟨W,H,[]⟩ r0=0
   .have k:=g hs e;have r:=k.2.1;have a:NS W H=0:=by unfold NS;rw[if_pos hs,e]
    have b:OQ W H=⟨W,H,[]⟩:=by unfold OQ;rw[if_pos a]
    have j:Ok W H=Il (FG W H):=by unfold Ok;rw[if_pos a]
    refine X0 _ ?_;(repeat' first|constructor|intro h)<;>refine Lm ?_
    all_goals(try simp only[CU,Ib,Ig,k1]at*)
    all_goals(try first
     |contradiction
     |exact absurd e Dz
     |(refine⟨⟨⟨FF _,by show 0<=100000;omega⟩,λc m=>by cases m⟩,Dv,Dv⟩)
     |(rw[show (⟨0,0,0⟩:Mv)=r0 from rfl,<-n];refine⟨Dv,Dv,?_,Dv⟩;exact Qz Dw Dv Dv))
    refine⟨(0:Nat),Je _,?_,?_⟩
    .refine X0a _ ?_;(repeat' first|constructor|intro h)<;>refine Lm ?_
     all_goals(try simp only[n,show (⟨0,0,0⟩:Mv)=r0 from rfl])
     all_goals first|exact Ba|(intro q _;exact .inl (by rw[f10 (Jq _)];rfl))|exact A4|rfl|skip
    .intro i o;replace o:i<=(FG W H).length:=o;by_cases b6:i<(FG W H).length
     .refine X0a _ ?_;(repeat' first|constructor|intro h)<;>refine Lm ?_
      all_goals(try simp only[Ia]at*)
      all_goals(try first
       |exact By
       |exact Ap
       |exact Ae)
      refine⟨i+1,Ea,E7,?_⟩;all_goals refine X0a _ ?_;(repeat' first|constructor|intro h)<;>refine Lm ?_
      all_goals(try simp only[Jk])
      all_goals first
       |omega
       |exact λ_ _=>f7k Dv
       |exact A4
       |rfl
       |skip
     .obtain rfl:i=(FG W H).length:=Dv;refine X0a _ ?_;(repeat' first|constructor|intro h)<;>refine Lm ?_
      all_goals(try simp only[Ia,fl_lst,fl_nil,N1,b,j]at*)
      all_goals(try first
       |exact By
       |omega
       |exact B5
       |exact⟨⟨⟨fl_is0,Dv,λs hs=>by cases hs⟩,fl_is,r,λs hs=>(k.2.2.1 s hs).2.2⟩,k⟩
       |exact a.symm)
   .have a:NS W H=CH ⟨W,H,[]⟩ r0:=by unfold NS;rw[if_pos hs]
    have b:OQ W H=⟨0,0,[]⟩:=by unfold OQ;rw[if_neg (by rw[a];exact e)]
    have j:Ok W H=[]:=by unfold Ok;rw[if_neg (by rw[a];exact e)]
    refine X0 _ ?_;(repeat' first|constructor|intro h)<;>refine Lm ?_
    all_goals(try simp only[CU,Ib,Ig,k1]at*)
    all_goals(first
     |contradiction
     |exact absurd Dz e
     |(refine⟨⟨⟨FF _,by show 0<=100000;omega⟩,λc m=>by cases m⟩,Dv,Dv⟩)
     |(rw[b];done)
     |(rw[b];rfl)
     |(rw[j];rfl)
     |exact a.symm
     |rfl
     |skip)
  .have a:NS W H=AV W H:=by unfold NS;rw[if_neg hs]
   have b:OQ W H=⟨0,0,[]⟩:=by unfold OQ;rw[if_neg (by rw[a];exact hs)]
   have j:Ok W H=[]:=by unfold Ok;rw[if_neg (by rw[a];exact hs)]
   refine X0 _ ?_;(repeat' first|constructor|intro h)<;>refine Lm ?_
   all_goals(try simp only[CU,Ib,Ig]at*)
   all_goals(first
    |contradiction
    |(rw[b];done)
    |(rw[b];rfl)
    |(rw[j];rfl)
    |exact a.symm
    |rfl
    |skip)
theorem f3p{L:List Stk}{nA:Nat}(m:∀i j,i<j->j<nA->j<L.length->(L.getD i AA.d).c≠(L.getD j AA.d).c):∀i,i<=L.length->∀o∈oF L i,
 ((o.2=true/\o.1∈L)\/(o.2=false/\∃j,nA<=j/\j<i/\(L.getD j AA.d).c=o.1.c))/\∃j,j<i/\(L.getD j AA.d).c=o.1.c
 |0,_=>by simp[oF]
 |i+1,h=>by
  intro o f;have n:=f3p m i Dv;have q:∀o∈oF L i,((o.2=true/\o.1∈L)\/(o.2=false/\∃j,nA<=j/\j<i+1/\(L.getD j AA.d).c=o.1.c))/\∃j,j<i+1/\(L.getD j AA.d).c=o.1.c:=by
   intro o f;obtain⟨g,j,r,l⟩:=n o f;refine⟨?_,j,Dv,l⟩;rcases g with g|⟨e,j,a,b,c⟩
   .exact .inl g
   .exact .inr ⟨e,j,a,Dv,c⟩
  rw[Wo Dv]at f;cases hf:Fl (oF L i) (FI (L.getD i AA.d).c)with
  |some k=>
   obtain⟨s,t⟩:=VX hf;rw[Sw hf]at f;rcases M3 f with f|rfl
   .exact q o f
   .have u:nA<=i:=by
     rcases N9 i nA with v|w
     .obtain⟨_,j,r,l⟩:=n _ (BW (d:=dO) s);exact absurd (l.trans (c02 t)) (m j i r v Dv)
     .exact w
    exact⟨.inr ⟨rfl,i,u,Dv,rfl⟩,i,Dv,rfl⟩
  |none=>
   rw[TF hf]at f;rcases Jy.1 f with f|f
   .exact q o f
   .simp only[Js]at f;subst f;exact⟨.inl ⟨rfl,BW Dv⟩,i,Dv,rfl⟩
theorem d89{L:List Stk}{nA:Nat}(g:0<L.length)(m:L.length<=100000)(hs:∀s∈L,AE .u8 s.c.q/\s.l≠[]/\s.l.length<=50000)
 (n:∀i j,i<j->j<nA->j<L.length->(L.getD i AA.d).c≠(L.getD j AA.d).c) (o:∀i j,nA<=i->i<j->j<L.length->(L.getD i AA.d).c≠(L.getD j AA.d).c):RP L:=by
 refine⟨g,m,λs h=>⟨(hs s h).1,(hs s h).2.1,by have:=(hs s h).2.2;omega⟩,λi k f r=> ?_⟩;obtain⟨t,u⟩:=VX r;obtain⟨v,_⟩:=f3p n i Dv _ (BW (d:=dO) t);rcases v with⟨e,w⟩|⟨_,j,a,b,c⟩
 .refine⟨e,?_⟩;have a1:=(hs _ w).2.2;have a2:=(hs _ (BW (d:=AA.d) f)).2.2;omega
 .exact absurd (c.trans (c02 u)) (o j i a b f)
theorem d8b{W H:Int}{has:List Int->Bool}{s b:BS}{i e:Int}(c:∀q,has q=false)(h:LK W H has s i e=some b)(a:∀m∈s.out,m=AH.d):∀m∈b.out,m=AH.d:=by
 have f:IR W H has (s.out.getD i.toNat AH.d) i e=AH.d:=by
  unfold IR;rw[c,cond_false,Ix];cases hg:s.out[i.toNat]? with
  |none=>rfl
  |some m=>exact a m (J6 hg)
 unfold LK at h;split at h
 .simp only at h;split at h
  .cases h;cases s.kn.getD (AG W H i e).toNat false with
   |true=>exact a
   |false=>
    simp only[cond_false];exact b3r (q:=λm=>m=AH.d) a f
  .cases h
 .cases h;exact a
theorem c72{W H:Int}{has:List Int->Bool}{i:Int}(c:∀q,has q=false):∀(l:List Int) {s a:BS},MZ W H has i l s=some a->(∀m∈s.out,m=AH.d)->∀m∈a.out,m=AH.d
 | [],s,a,h,b=>by cases h;exact b
 |e::l,s,a,h,b=>by simp only[MZ,J8]at h;obtain⟨s1,f,g⟩:=h;exact c72 c l g (d8b c f b)
theorem f49{W H:Int}{has:List Int->Bool}(b:∀q,has q=false):∀(f:Nat) {s:BS} {l:List Mv},IV W H has f s=some l->(∀m∈s.out,m=AH.d)->∀m∈l,m=AH.d
 |0,s,l,h,a=>by
  simp only[IV]at h;split at h<;>cases h
  exact a
 |f+1,s,l,h,a=>by
  simp only[IV]at h;split at h
  .cases h;exact a
  .simp only[J8]at h;obtain⟨s1,c,e⟩:=h;exact f49 b f e (c72 b _ c (s:=⟨s.out,s.kn,_⟩) a)
theorem d8e{W H:Int}:∀m∈BD ⟨W,H,[]⟩,m=AH.d:=by
 unfold BD;cases h:NQ ⟨W,H,[]⟩with
 |none=>simp
 |some l=>
  refine f49 (λq=>rfl) _ h (λm a=> ?_);exact(List.mem_replicate.1 a).2
theorem d8r{W H i j:Int}(hs:AV W H=0)(c:0<=i)(h:i<4*W*H)(k0:0<=j)(k:j<4*W*H)(e:AL W H i=AL W H j):i=j:=by rw[HV hs c h,HV hs k0 k]at e;simp only[Cl.mk.injEq]at e;obtain⟨d,f,e3⟩:=e;have a:=Mf (i/4) W;have b:=Mf (j/4) W;rw[d,f]at a;omega
theorem c9i{W H:Int}(hs:AV W H=0)(a:CH ⟨W,H,[]⟩ r0=0):(CF ⟨W,H,[]⟩ r0).Nodup:=by
 have P:=PJ (p:=⟨W,H,[]⟩) (r:=r0) Dy a;have hN:=CR hs;have dz:(CF ⟨W,H,[]⟩ r0).length=AJ W H:=P.il;have hrl:=(Sy a).1;have fg:(BL ⟨W,H,[]⟩ r0).length=AJ W H:=P.pl;have one:∀i:Nat,i<AJ W H->(BL ⟨W,H,[]⟩ r0).getD i AH.d=HC AH.d r0:=λi b=>by rw[(Sy a).2 i Dv];unfold KP;rw[d8e _ (BW (d:=AH.d) (show i<(BD ⟨W,H,[]⟩).length from Dv))]
 refine K8.2 λi j b k dw e=> ?_;have f:=P.im i (by show i<AJ W H;omega);have g:=P.im j (by show j<AJ W H;omega);rw[Ix,Iy b,Kn,one i Dv]at f;rw[Ix,Iy k,Kn,one j Dv]at g;have vm:=P.vm 0 (by show 0<AJ W H;omega);rw[one 0 Dv]at vm;have l:=f.1.symm.trans (e.trans g.1);have ci:=IA hs (i:=(i:Int)) Dv Dv;have cj:=IA hs (i:=(j:Int)) Dv Dv;have m:=f90 (c:=AL W H i) hs Dv Dv Dv;have n:=f90 (c:=AL W H j) hs Dv Dv Dv;have:=d8r hs Dv Dv Dv Dv (d13 vm m n l);omega
theorem d98{W H:Int}(hs:AV W H=0)(b:CH ⟨W,H,[]⟩ r0=0):RP (FG W H):=by
 have P:=PJ (p:=⟨W,H,[]⟩) (r:=r0) Dy b;have hN:=CR hs;have dz:(CF ⟨W,H,[]⟩ r0).length=AJ W H:=P.il;have kl:(FG W H).length=(CF ⟨W,H,[]⟩ r0).length:=Hk;have l:=c9i hs b;have f:∀i j,i<j->j<(FG W H).length->((FG W H).getD i AA.d).c≠((FG W H).getD j AA.d).c:=λi j m n e=>by rw[c3b n,c3b (show i<(FG W H).length from Dv)]at e;have:=K8.1 l i j Dv Dv m;apply this;simpa[Ix,Iy (show i<(CF ⟨W,H,[]⟩ r0).length from Dv),Iy (show j<(CF ⟨W,H,[]⟩ r0).length from Dv)]using e
 refine d89 (nA:=(FG W H).length) Dv Dv (λs o=> ?_) (λi j g k a=>f i j g a) (λi j g k a=>f i j k a);obtain⟨i,q,rfl⟩:=HH (d:=AA.d) o;rw[c3b q];have:=(P.im i (by show i<AJ W H;omega)).2.2.2;refine⟨Ff,Dx,Dx⟩
def c6r:AM
 | [.agg [.int .i64 W,.int .i64 H]]=>some (True,.tup [.agg (Wz (OQ W H) r0 (Ok W H)),.int .i64 (NS W H)])
 |_=>none
theorem d8d:PS 31 c6r:=by
 refine⟨d20.1,λA w args a pre s c d e b hp=> ?_⟩;unfold c6r at b;split at b
 .rename_i W H;cases b;exact d20.2 A w _ a _ _ c d e rfl (λf g=>d98 f g)
 .cases b
end Go.Proofs.YtaihldljnlgnoaaGreatDoor.V
