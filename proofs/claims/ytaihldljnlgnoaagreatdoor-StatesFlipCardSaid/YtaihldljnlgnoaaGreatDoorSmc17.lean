/-
  Parts of the proof: C17 A36 A29 A37 A40. Conditions: none.
-/
import Derived.Test.YtaihldljnlgnoaaGreatDoorSmc9
import Derived.Test.YtaihldljnlgnoaaGreatDoorSmc10
import Derived.Test.YtaihldljnlgnoaaGreatDoorSmc15
set_option maxRecDepth 100000
set_option maxHeartbeats 40000000
namespace Go.Proofs.YtaihldljnlgnoaaGreatDoor.V
open Go
def QY(p:Pt)(r:Mv)(L:List Stk)(i:Int):Int:=if FE p r L=0 then(if i<0\/((GQ p r).length:Int)<=i then 7 else 0)else FE p r L
def TM(p:Pt)(r:Mv)(L:List Stk)(i:Int):Bool:=if QY p r L i=0 then(GQ p r).getD i.toNat GR.d else false
def XK:AK
 | [x,.int .i64 i]=>(Fo x).map λq=>(q.1,.tup [.bool (TM q.2.1 q.2.2.1 q.2.2.2 i),.int .i64 (QY q.2.1 q.2.2.1 q.2.2.2 i)])
 |_=>none
def FStUp:Fam:=⟨(Pt×Mv×List Stk)×Int,λ((p,r,L),i)=>[.agg (BD p r L),.int .i64 i],λ((p,r,L),_)=>prOK p r/\EV L,λ((p,r,L),i)=>.tup [.bool (TM p r L i),.int .i64 (QY p r L i)]⟩
theorem g13{p:Pt}{r:Mv}{L:List Stk}(h:FE p r L=0):CZ p r L=0:=by
 unfold FE at h;split at h
 .exact h
 .rename_i a;exact Decidable.not_not.1 a
theorem pStUp:PS 15 XK:=by
 refine con [(12,PC),(44,kUp)] (by simpa using⟨Uk,pUp⟩) FStUp (λ_ _=>none) XK ?_ ?_ Tryz.func15 E5 E5 E5 ?_
 .intro args pre s h d;unfold XK at h;split at h
  .rename_i x i;simp only[Iq]at h;obtain⟨⟨q,p,r,L⟩,hx,rfl,rfl⟩:=h;obtain⟨h1,b,f⟩:=Ll hx d;exact⟨((p,r,L),i),⟨h1,Ec,Ji⟩,⟨b,f⟩,rfl⟩
  .cases h
 .exact C3
 .rintro⟨⟨p,r,L⟩,i⟩ ⟨c9,bu⟩;refine X0a _ ?_;(repeat' first|constructor|intro h)<;>refine Lm ?_
  all_goals(try simp only[CR,RT.lst_row,Qb,QJ]at*)
  .exact Dv
  iterate 2
   .have a:¬FE p r L=0:=Ea;have e:QY p r L i=FE p r L:=Jg a;first|exact e.symm|(unfold TM;rw[e,if_neg a];done)
  .exact⟨⟨⟨EC _,c9.1.1⟩,c9.1.2⟩,c9.2⟩
  iterate 2
   .rename_i h1;have a:FE p r L=0:=F0;have b:¬CF p r=0:=Ea;exact absurd ((YP (g13 a)).1) b
  iterate 2
   .rename_i h1 b;have a:FE p r L=0:=F0;have c:i<0\/((GQ p r).length:Int)<=i:=Ea;have e:QY p r L i=7:=by unfold QY;rw[if_pos a,if_pos c]
    first|exact e.symm|(unfold TM;rw[e];rfl)
  all_goals
   rename_i h1 b;have a:FE p r L=0:=F0;have c:¬(i<0\/((GQ p r).length:Int)<=i):=by
    intro g;have:(decide (i<0)||decide (((GQ p r).length:Int)<=i))=true:=by simpa using g
    rw[this]at h;cases h
   have e:QY p r L i=0:=by unfold QY;rw[if_pos a,if_neg c]
   first
    |omega
    |exact e.symm
    |(unfold TM;rw[e,if_pos rfl];done)
    |skip
def c5i(W H:Int):Pt:=⟨keep (AO W H) W,keep (AO W H) H,[]⟩
def c79:AK
 | [.agg [.int .i64 W,.int .i64 H]]=>some (True,.tup [IH (c5i W H),.int .i64 (AO W H)])
 |_=>none
def FEmpty:Fam:=⟨Int×Int,λ(W,H)=>[.agg [.int .i64 W,.int .i64 H]],λ_=>True,λ(W,H)=>.tup [IH (c5i W H),.int .i64 (AO W H)]⟩
theorem pEmpty:PS 70 c79:=by
 refine con [(96,QC)] (by simpa using Td) FEmpty (λ_ _=>none) c79 ?_ ?_ Tryz.func70 E5 E5 E5 ?_
 .intro args pre s h a;unfold c79 at h;split at h
  .rename_i W H;cases h;exact⟨(W,H),⟨Ej,Ji⟩,Ji,rfl⟩
  .cases h
 .exact C4
 .rintro⟨W,H⟩ a;have k0:AO W H=0->∀v,keep (AO W H) v=v:=λh v=>by unfold keep;rw[if_pos h]
  have k1:¬AO W H=0->∀v,keep (AO W H) v=0:=λh v=>by unfold keep;rw[if_neg h]
  refine X0a _ ?_;(repeat' first|constructor|intro h)<;>refine Lm ?_
  all_goals(try simp only[Ip,Iv]at*)
  all_goals(first
   |rfl
   |exact(k0 E8 _).symm
   |exact(k1 E8 _).symm
   |assumption
   |(symm;assumption)
   |skip)
theorem c5w{x:SV}{q:Prop}{L:List Stk}(h:Rz x=some (q,L))(a:q):x.le2 (FI L):=by unfold Rz at h;simp only[Iq]at h;obtain⟨⟨n,f⟩,hx,rfl,rfl⟩:=h;exact HT (AA.as_le hx a.1)
theorem ov_of(O:OS)(j:Nat):AA.of (MH O j)=(O.getD j dO).1:=by have:AC.lst (O.getD j dO).1.l.length (AC.row (O.getD j dO).1.l)=(O.getD j dO).1.l:=RT.lst_row _ _;show Tj (MH O j)=_;unfold MH;have h:AC.as (.sl 1 (O.getD j dO).1.l.length (AC.row (O.getD j dO).1.l) (if(O.getD j dO).2=true then some (O.getD j dO).1.l.length else none))=some ((O.getD j dO).1.l.length,AC.row (O.getD j dO).1.l):=rfl;simp only[Tj,h,this]
theorem f3k(O:OS):AA.lst O.length (MH O)=O.map (·.1):=by
 apply Np
 .simp[RT.lst]
 .intro i h1 a;have b:i<O.length:=by simpa using a
  simp[RT.lst,ov_of,b]
theorem ov_isL(O:OS):AA.isL O.length (MH O):=by intro i _;rw[ov_of];exact .inr ⟨by simp[SV.lf],by simp[SV.lf],by simp[SV.lf],⟨rfl,F5,Ji,λ_ _=>rfl⟩,Ji⟩
theorem ov_set{O:OS}{k q:Nat}{d:Cl}{a b:List Int}(g:k<O.length)(hl:a=(O.getD k dO).1.l)(i:(O.getD k dO).1.c=d):
 GU (DW (decide (q=k)) [.int .i64 (O.getD k dO).1.c.x,.int .i64 (O.getD k dO).1.c.y,.int .u8 (O.getD k dO).1.c.q,.sl 1 (a.length+b.length) (λj=>if j<a.length then AC.row a j else AC.row b (j-a.length)) none] (MH O q)) (MH (O.set k (⟨d,a++b⟩,false)) q):=by
 by_cases e:q=k
 .subst e;rw[K2 rfl];have f:(O.set q (⟨d,a++b⟩,false)).getD q dO=(⟨d,a++b⟩,false):=by simp[g]
  have m:MH (O.set q (⟨d,a++b⟩,false)) q=[.int .i64 d.x,.int .i64 d.y,.int .u8 d.q,.sl 1 (a++b).length (AC.row (a++b)) none]:=by unfold MH;rw[f];rfl
  rw[m,i];refine .inr ⟨rfl,rfl,rfl,⟨Kj.symm,F5,Ji,λj _=> ?_⟩,Ji⟩;exact c38 AC a b j
 .rw[K5 e];left;have f:(O.set k (⟨d,a++b⟩,false)).getD q dO=O.getD q dO:=by simp[Ju (Ne.symm e)]
  unfold MH;rw[f];rfl
theorem ov_app{O:OS}{x:Stk}{j:Nat}(hj:j<O.length+1):GU (if j<O.length then MH O j else(List.map (λx:Nat×List SV=>x.snd) [(0,[.int .i64 x.c.x,.int .i64 x.c.y,.int .u8 x.c.q,.sl 1 x.l.length (AC.row x.l) (some x.l.length)])].reverse).getD (j-O.length) []) (MH (O++[(x,true)]) j):=by
 left;by_cases e:j<O.length
 .rw[Jf e];unfold MH;simp[Jr e]
 .have:j=O.length:=E4;subst this;rw[Jg e,L8];unfold MH;simp[]
theorem f0v{O:OS}{x:Stk}(h:FZ O (FM x.c)=none)(q:List Int):JX (TU O) (FM x.c) q=TU (QA O x) q:=by
 unfold JX TU;rw[c5c h];by_cases e:q=FM x.c
 .rw[Jf e,K2 e];rfl
 .rw[Jg e,K5 e];rfl
theorem f8q{S:List Stk}{i q:Nat}{c:Option Nat}:GU (DW (decide (q=i)) [.int .i64 (S.getD i AA.d).c.x,.int .i64 (S.getD i AA.d).c.y,.int .u8 (S.getD i AA.d).c.q,.sl 1 (S.getD i AA.d).l.length (AC.row (S.getD i AA.d).l) c] (AA.row S q)) (AA.row S q):=by
 by_cases e:q=i
 .subst e;rw[K2 rfl];right;exact⟨rfl,rfl,rfl,⟨rfl,F5,Gx,λ_ _=>rfl⟩,Ji⟩
 .rw[K5 e];left;rfl
def f2c:AK
 | [x,y]=>match Rz x,Rz y with
   |some (p,A),some (q,B)=>some ((p/\q)/\RN (A++B),.sl 4 (IV (A++B)).length (AA.row (IV (A++B))) (some (IV (A++B)).length))
   |_,_=>none
 |_=>none
def FOver:Fam:=⟨List Stk×List Stk,λ(A,B)=>[FI A,FI B],λ(A,B)=>(ET A/\ET B)/\RN (A++B),λ(A,B)=>.sl 4 (IV (A++B)).length (AA.row (IV (A++B))) (some (IV (A++B)).length)⟩
def ovMap(O:OS):Blk:=.map (.ints [.i64,.i64,.u8]) false (TU O) (λq=>[.int .i64 (TD O q)])
def IOver:List Stk×List Stk->Nat->Option Inv
 |(A,B),4=>some {β:=Nat,ok:=λi=>i<=(A++B).length,st:=λi=>⟨[⟨18,none,.int .i64 i⟩,⟨17,none,.int .i64 (A++B).length⟩,⟨16,none,FI (A++B)⟩,⟨6,none,.osl 2⟩,⟨5,none,.omp 0⟩],[ovMap (oF (A++B) i),.dead,.row 41 4 (oF (A++B) i).length (MH (oF (A++B) i)) none]⟩,μ:=λi=>(A++B).length-i,nl:=[.slot 6 41 4]}
 |(A,B),15=>some {β:=Nat,ok:=λi=>i<=(IV (A++B)).length,st:=λi=>⟨[⟨61,none,.int .i64 i⟩,⟨60,none,.int .i64 (IV (A++B)).length⟩,⟨6,none,.osl 2⟩],[.dead,.dead,.row 41 4 (IV (A++B)).length (AA.row (IV (A++B))) none]⟩,μ:=λi=>(IV (A++B)).length-i}
 |_,_=>none
theorem pOver:PS 73 f2c:=by
 refine NU {l:=[(97,b8h),(87,c0f),(102,b0q),(101,b1h)],x:=[(98,c0y)],fz:=λd=>Nat.beq d 16||Nat.beq d 74,gr:=λid=>bif Nat.beq id 9 then [.fz 4,.flat 2]else []} ⟨by simpa using⟨g0e,f7a,c58,d00⟩,by simpa using f81,E6⟩ FOver IOver f2c ?_ ?_ Tryz.func73 E5 E5 E5 ?_
 .intro args pre s h K;unfold f2c at h;split at h
  .rename_i x y;split at h
   .rename_i p A q B hx v;cases h;obtain⟨⟨w,z⟩,M⟩:=K;exact⟨(A,B),⟨c5w hx w,c5w v z,Ji⟩,⟨⟨(b4m hx w).2,(b4m v z).2⟩,M⟩,rfl⟩
   .cases h
  .cases h
 .exact C3
 .rintro⟨A,B⟩ ⟨⟨C,E⟩,F⟩;have N:=F;obtain⟨O,hn,j,P⟩:=N;refine X0a _ ?_;(repeat' first|constructor|intro h)<;>refine Lm ?_
  .refine⟨⟨⟨AA.is_row _,C.1,λs hs=>C.2 s (by rwa[RT.lst_row]at hs)⟩,AA.is_row _,E.1,λs hs=>E.2 s (by rwa[RT.lst_row]at hs)⟩,?_⟩;rw[RT.lst_row,RT.lst_row,<-Kj];exact O
  simp only[RT.lst_row];generalize G:A++B=L at*;refine⟨(0:Nat),Js _,?_,?_⟩
  .refine X0b _ ?_;(repeat' first|constructor|intro h)<;>refine Lm ?_
   all_goals first|rfl|exact Bu|exact A8|(intro q b;exact absurd b (K3 _))|(intro q b;cases b)|skip
  .intro i f;replace f:i<=L.length:=f;have hF:=(VJ (L:=L) i f).1;rcases Nn i L.length with g|rj
   .have hx:L.getD i AA.d∈L:=by rw[Jd,Je g,L4];exact Kd g
    have ba:(L.getD i AA.d).l.length≠0:=λe=>(j _ hx).2.1 (La e);have Q:(L.getD i AA.d).l.length<=100000:=(j _ hx).2.2;cases hf:FZ (oF L i) (FM (L.getD i AA.d).c)with
    |some k=>
     have m:TU (oF L i) [(L.getD i AA.d).c.x,(L.getD i AA.d).c.y,(L.getD i AA.d).c.q]=true:=by show (FZ (oF L i) (FM (L.getD i AA.d).c)).isSome=true;rw[hf];rfl
     have n:TD (oF L i) [(L.getD i AA.d).c.x,(L.getD i AA.d).c.y,(L.getD i AA.d).c.q]=k:=by show (((FZ (oF L i) (FM (L.getD i AA.d).c)).getD 0:Nat):Int)=k;rw[hf];rfl
     obtain⟨H,R⟩:=VM hf;have T:=b9v R;obtain⟨U,w8⟩:=P i k g hf;all_goals refine X0b _ ?_;(repeat' first|constructor|intro h)<;>refine Lm ?_
     all_goals(try simp only[In,m,n]at*)
     all_goals(try first
      |contradiction
      |exact C2
      |exact Ay
      |(show k<(oF L i).length;exact H)
      |(intro b;cases b)
      |(refine⟨by rw[Jf U],.inr E4,E4,?_⟩;exact MK E5 E4))
     .refine⟨i+1,E4,E4,?_⟩;simp only[WR g];refine X0b _ ?_;(repeat' first|constructor|intro h)<;>refine Lm ?_
      all_goals first
       |rfl
       |omega
       |(intro q;unfold TU;rw[d6d hf])
       |(intro q _;unfold TD;rw[d6d hf])
       |(rw[So hf,L5])
       |(intro q _;rw[So hf];exact ov_set H rfl T)
       |exact A8
       |skip
    |none=>
     have m:TU (oF L i) [(L.getD i AA.d).c.x,(L.getD i AA.d).c.y,(L.getD i AA.d).c.q]=false:=by show (FZ (oF L i) (FM (L.getD i AA.d).c)).isSome=false;rw[hf];rfl
     have n:TD (oF L i) [(L.getD i AA.d).c.x,(L.getD i AA.d).c.y,(L.getD i AA.d).c.q]=0:=by show (((FZ (oF L i) (FM (L.getD i AA.d).c)).getD 0:Nat):Int)=0;rw[hf];rfl
     all_goals refine X0b _ ?_;(repeat' first|constructor|intro h)<;>refine Lm ?_
     all_goals(try simp only[In,m,n]at*)
     all_goals(try first
      |contradiction
      |exact C2
      |exact Ay
      |exact⟨AC.isL_row _,Q⟩
      |(intro _;kernel_rfl)
      |exact Ae)
     .refine⟨i+1,E4,E4,?_⟩;simp only[WR g];refine X0b _ ?_;(repeat' first|constructor|intro h)<;>refine Lm ?_
      all_goals first
       |rfl
       |omega
       |(rw[Sw hf];simp;done)
       |exact f0v hf
       |(intro q _
         show DW (decide (q=FM (L.getD i AA.d).c)) [SV.int .i64 ((oF L i).length:Nat)] [SV.int .i64 (TD (oF L i) q)]=[SV.int .i64 (TD (QA (oF L i) (L.getD i AA.d)) q)];unfold TD;rw[c5c hf];by_cases e:q=FM (L.getD i AA.d).c
         .rw[Jf e,K2 e];rfl
         .rw[Jg e,K5 e];rfl)
       |(simp only[RT.lst_row];intro q b;rw[Sw hf];exact ov_app b)
       |exact A8
       |skip
   .have e:i=L.length:=E4;subst e;refine X0b _ ?_;(repeat' first|constructor|intro h)<;>refine Lm ?_
    all_goals(try simp only[In]at*)
    all_goals(try(exfalso;omega))
    .have I:=VJ (L:=L) L.length (Jm _);rw[f3k];refine⟨ov_isL _,E4,λs hs=> ?_,oF_key (Jm _)⟩;obtain⟨o,V,rfl⟩:=Jx.1 hs;exact I.2.2.1 o V (λc=>AD .u8 c.q) (λs hs=>(j s hs).1)
    .simp only[G,f3k];have I:=(VJ (L:=L) L.length (Jm _)).1;have W:=@g01 L;have r:=f62 F;have t:GY JT ((oF L L.length).map (·.1))=IV L:=rfl;rw[t,<-W];generalize u:IV L=S at*;have J:IV (A++B)=S:=by rw[G];exact u
     refine⟨(0:Nat),Js _,?_,?_⟩
     .exact X2a
     .intro i f;replace f:i<=S.length:=f;have hx:i<S.length->(S.getD i AA.d).l.length<=100000:=λh=>r _ Hs;refine X0b _ ?_;(repeat' first|constructor|intro h)<;>refine Lm ?_
      all_goals(try simp only[In,RT.lst_row]at*)
      all_goals(try first
       |exact Ay
       |(show i<S.length;omega)
       |exact⟨AC.isL_row _,hx E4⟩
       |exact A8
       |(rw[J];done)
       |(rw[J];exact λ_ _=>.inl rfl))
      refine⟨i+1,E4,E4,?_⟩;all_goals refine X0b _ ?_;(repeat' first|constructor|intro h)<;>refine Lm ?_
      all_goals(try simp only[Jv,RT.lst_row])
      all_goals first
       |exact Aq
       |(intro q _;exact f8q)
       |skip
def r0:Mv:=⟨0,0,0⟩
def NH(W H:Int):Int:=if AO W H=0 then CF ⟨W,H,[]⟩ r0 else AO W H
def FL(W H:Int):List Stk:=(CA ⟨W,H,[]⟩ r0).mapIdx λi c=>⟨c,[(i:Int)]⟩
def OT(W H:Int):Pt:=if NH W H=0 then⟨W,H,[]⟩else⟨0,0,[]⟩
def Oo(W H:Int):List Stk:=if NH W H=0 then IV (FL W H)else []
def Pb(l:List Stk)(i q:Nat):List SV:=[.int .i64 (if q<i then(l.getD q AA.d).c.x else 0),.int .i64 (if q<i then(l.getD q AA.d).c.y else 0),.int .u8 (if q<i then(l.getD q AA.d).c.q else 0),if q<i then .sl 1 (l.getD q AA.d).l.length (AC.row (l.getD q AA.d).l) none else .con (.slice none 0 0)]
theorem d9n{l:List Stk}{i q:Nat}(h:q<i):Pb l i q=AA.sv (l.getD q AA.d):=by simp only[Pb,Jf h];rfl
theorem f0k{l:List Stk}{i q:Nat}(h:¬q<i):Pb l i q=d1c:=by simp only[Pb,Jg h];rfl
theorem f42{l:List Stk}{q:Nat}(h:q<l.length):Pb l l.length q=AA.row l q:=by rw[d9n h];rfl
theorem c30{W H:Int}{i:Nat}(h:i<(FL W H).length):(FL W H).getD i AA.d=⟨(CA ⟨W,H,[]⟩ r0).getD i Co.d,[(i:Int)]⟩:=by
 have k:i<(CA ⟨W,H,[]⟩ r0).length:=by unfold FL at h;rwa[List.length_mapIdx]at h
 unfold FL;simp[k]
theorem f75{W H:Int}{i q:Nat}(hi:i<(FL W H).length):GU (DW (decide (q=i)) [.int .i64 ((CA ⟨W,H,[]⟩ r0).getD i Co.d).x,.int .i64 ((CA ⟨W,H,[]⟩ r0).getD i Co.d).y,.int .u8 ((CA ⟨W,H,[]⟩ r0).getD i Co.d).q,.sl 1 1 (λj=>(List.map (λx:Nat×List SV=>x.snd) [(0,[SV.int .i64 (i:Int)])].reverse).getD j []) (some 1)] (Pb (FL W H) i q)) (Pb (FL W H) (i+1) q):=by
 by_cases e:q=i
 .subst e;rw[d9n (Nat.lt_succ_self _),f0k (M1 _),K2 rfl,c30 hi];right;refine⟨rfl,rfl,rfl,⟨rfl,F5,Ji,λj hj=> ?_⟩,Ji⟩;obtain rfl:j=0:=E4;rfl
 .left;rw[K5 e];by_cases h:q<i
  .rw[d9n h,d9n E4];rfl
  .rw[f0k h,f0k E4];rfl
theorem fl_lst{l:List Stk}:AA.lst l.length (Pb l l.length)=l:=by
 have e:AA.lst l.length (Pb l l.length)=AA.lst l.length (AA.row l):=by simp only[RT.lst];apply Me;intro q hq;rw[f42 Gd]
 rw[e,RT.lst_row]
theorem fl_is{l:List Stk}:AA.is l.length (Pb l l.length):=by intro q a;rw[f42 a];exact AA.is_row l q a
theorem fl_nil:AA.lst 0 (λ_=>[])=[]:=rfl
theorem fl_is0:AA.is 0 (λ_=>[]):=λi a=>absurd a (K3 i)
def flC(W H:Int):List Blk:=[.cells 26 [.int .i64 W,.int .i64 H],.cells 34 [.int .i64 0,.int .i64 0,.con (.slice none 0 0),.int .u8 0,.int .i64 0,.int .i64 0,.con (.slice none 0 0)],.cells 29 [.int .i64 W,.int .i64 H,.sl 3 0 (DZ []) none]]
def Wc(p:Pt)(r:Mv)(L:List Stk):List SV:=[.int .i64 p.W,.int .i64 p.H,.sl 3 p.l.length (DZ p.l) none,.int .u8 r.t,.int .i64 r.x,.int .i64 r.y,.sl 4 L.length (AA.row L) (some L.length)]
def c4u:AK
 | [.agg [.int .i64 W,.int .i64 H]]=>some (AO W H=0->CF ⟨W,H,[]⟩ r0=0->RN (FL W H),.tup [.agg (Wc (OT W H) r0 (Oo W H)),.int .i64 (NH W H)])
 |_=>none
def f7b:Fam:=⟨Int×Int,λ(W,H)=>[.agg [.int .i64 W,.int .i64 H]],λ(W,H)=>AO W H=0->CF ⟨W,H,[]⟩ r0=0->RN (FL W H),λ(W,H)=>.tup [.agg (Wc (OT W H) r0 (Oo W H)),.int .i64 (NH W H)]⟩
def f9k:Int×Int->Nat->Option Inv
 |(W,H),9=>some {β:=Nat,ok:=λi=>i<=(FL W H).length,st:=λi=>⟨[⟨34,none,.int .i64 i⟩,⟨33,none,.int .i64 (FL W H).length⟩,⟨32,none,.sl 3 (CA ⟨W,H,[]⟩ r0).length (Co.row (CA ⟨W,H,[]⟩ r0)) none⟩,⟨7,none,.osl 3⟩,⟨4,none,.own 2 0⟩,⟨2,none,.own 1 0⟩],flC W H++[.row 41 4 (FL W H).length (Pb (FL W H) i) (some (FL W H).length)]⟩,μ:=λi=>(FL W H).length-i}
 |_,_=>none
theorem d1p:PS 31 c4u:=by
 refine NU {l:=[(70,c79),(72,b2w),(71,XB),(73,f2c)],fz:=λd=>Nat.beq d 49,gr:=λid=>bif Nat.beq id 11 then [.fz 5,.flat 3]else(bif Nat.beq id 13 then [.orders]else [])} ⟨by simpa using⟨pEmpty,d70,c41,pOver⟩,E6,E6⟩ f7b f9k c4u ?_ ?_ Tryz.func31 E5 E5 E5 ?_
 .intro args pre s h g;unfold c4u at h;split at h
  .rename_i W H;cases h;exact⟨(W,H),⟨Ej,Ji⟩,g,rfl⟩
  .cases h
 .exact C4
 .rintro⟨W,H⟩ g;replace g:AO W H=0->CF ⟨W,H,[]⟩ r0=0->RN (FL W H):=g;have k0:AO W H=0->c5i W H=⟨W,H,[]⟩:=λh=>by unfold c5i keep;rw[if_pos h,if_pos h]
  have n:(FL W H).length=(CA ⟨W,H,[]⟩ r0).length:=Hy;by_cases hs:AO W H=0
  .have k1:=k0 hs;by_cases e:CF ⟨W,H,[]⟩ r0=0
   .have k:=g hs e;have r:=k.2.1;have a:NH W H=0:=by unfold NH;rw[if_pos hs,e]
    have b:OT W H=⟨W,H,[]⟩:=by unfold OT;rw[if_pos a]
    have j:Oo W H=IV (FL W H):=by unfold Oo;rw[if_pos a]
    refine X0a _ ?_;(repeat' first|constructor|intro h)<;>refine Lm ?_
    all_goals(try simp only[CR,Ip,Iv,k1]at*)
    all_goals(try first
     |contradiction
     |exact absurd e E8
     |(refine⟨⟨⟨EC _,by show 0<=100000;omega⟩,λc m=>by cases m⟩,E4,E4⟩)
     |(rw[show (⟨0,0,0⟩:Mv)=r0 from rfl,<-n];refine⟨E4,E4,?_,E4⟩;exact SA E5 E4 E4))
    refine⟨(0:Nat),Js _,?_,?_⟩
    .refine X0b _ ?_;(repeat' first|constructor|intro h)<;>refine Lm ?_
     all_goals(try simp only[n,show (⟨0,0,0⟩:Mv)=r0 from rfl])
     all_goals first|exact Bg|(intro q _;exact .inl (by rw[f0k (K3 _)];rfl))|exact A8|rfl|skip
    .intro i o;replace o:i<=(FL W H).length:=o;by_cases b6:i<(FL W H).length
     .refine X0b _ ?_;(repeat' first|constructor|intro h)<;>refine Lm ?_
      all_goals(try simp only[In]at*)
      all_goals(try first
       |exact C2
       |exact As
       |exact Au)
      refine⟨i+1,Ei,Ef,?_⟩;all_goals refine X0b _ ?_;(repeat' first|constructor|intro h)<;>refine Lm ?_
      all_goals(try simp only[Jv])
      all_goals first
       |omega
       |exact λ_ _=>f75 E4
       |exact A8
       |rfl
       |skip
     .obtain rfl:i=(FL W H).length:=E4;refine X0b _ ?_;(repeat' first|constructor|intro h)<;>refine Lm ?_
      all_goals(try simp only[In,fl_lst,fl_nil,Nh,b,j]at*)
      all_goals(try first
       |exact C2
       |omega
       |exact B7
       |exact⟨⟨⟨fl_is0,E4,λs hs=>by cases hs⟩,fl_is,r,λs hs=>(k.2.2.1 s hs).2.2⟩,k⟩
       |exact a.symm)
   .have a:NH W H=CF ⟨W,H,[]⟩ r0:=by unfold NH;rw[if_pos hs]
    have b:OT W H=⟨0,0,[]⟩:=by unfold OT;rw[if_neg (by rw[a];exact e)]
    have j:Oo W H=[]:=by unfold Oo;rw[if_neg (by rw[a];exact e)]
    refine X0a _ ?_;(repeat' first|constructor|intro h)<;>refine Lm ?_
    all_goals(try simp only[CR,Ip,Iv,k1]at*)
    all_goals(first
     |contradiction
     |exact absurd E8 e
     |(refine⟨⟨⟨EC _,by show 0<=100000;omega⟩,λc m=>by cases m⟩,E4,E4⟩)
     |(rw[b];done)
     |(rw[b];rfl)
     |(rw[j];rfl)
     |exact a.symm
     |rfl
     |skip)
  .have a:NH W H=AO W H:=by unfold NH;rw[if_neg hs]
   have b:OT W H=⟨0,0,[]⟩:=by unfold OT;rw[if_neg (by rw[a];exact hs)]
   have j:Oo W H=[]:=by unfold Oo;rw[if_neg (by rw[a];exact hs)]
   refine X0a _ ?_;(repeat' first|constructor|intro h)<;>refine Lm ?_
   all_goals(try simp only[CR,Ip,Iv]at*)
   all_goals(first
    |contradiction
    |(rw[b];done)
    |(rw[b];rfl)
    |(rw[j];rfl)
    |exact a.symm
    |rfl
    |skip)
theorem f36{L:List Stk}{nA:Nat}(m:∀i j,i<j->j<nA->j<L.length->(L.getD i AA.d).c≠(L.getD j AA.d).c):∀i,i<=L.length->∀o∈oF L i,
 ((o.2=true/\o.1∈L)\/(o.2=false/\∃j,nA<=j/\j<i/\(L.getD j AA.d).c=o.1.c))/\∃j,j<i/\(L.getD j AA.d).c=o.1.c
 |0,_=>by simp[oF]
 |i+1,h=>by
  intro o f;have n:=f36 m i E4;have q:∀o∈oF L i,((o.2=true/\o.1∈L)\/(o.2=false/\∃j,nA<=j/\j<i+1/\(L.getD j AA.d).c=o.1.c))/\∃j,j<i+1/\(L.getD j AA.d).c=o.1.c:=by
   intro o f;obtain⟨g,j,r,l⟩:=n o f;refine⟨?_,j,E4,l⟩;rcases g with g|⟨e,j,a,b,c⟩
   .exact .inl g
   .exact .inr ⟨e,j,a,E4,c⟩
  rw[WR E4]at f;cases hf:FZ (oF L i) (FM (L.getD i AA.d).c)with
  |some k=>
   obtain⟨s,t⟩:=VM hf;rw[So hf]at f;rcases Mi f with f|rfl
   .exact q o f
   .have u:nA<=i:=by
     rcases Nn i nA with v|w
     .obtain⟨_,j,r,l⟩:=n _ (CY (d:=dO) s);exact absurd (l.trans (b9v t)) (m j i r v E4)
     .exact w
    exact⟨.inr ⟨rfl,i,u,E4,rfl⟩,i,E4,rfl⟩
  |none=>
   rw[Sw hf]at f;rcases Ka.1 f with f|f
   .exact q o f
   .simp only[K4]at f;subst f;exact⟨.inl ⟨rfl,CY E4⟩,i,E4,rfl⟩
theorem d7u{L:List Stk}{nA:Nat}(g:0<L.length)(m:L.length<=100000)(hs:∀s∈L,AD .u8 s.c.q/\s.l≠[]/\s.l.length<=50000)
 (n:∀i j,i<j->j<nA->j<L.length->(L.getD i AA.d).c≠(L.getD j AA.d).c) (o:∀i j,nA<=i->i<j->j<L.length->(L.getD i AA.d).c≠(L.getD j AA.d).c):RN L:=by
 refine⟨g,m,λs h=>⟨(hs s h).1,(hs s h).2.1,by have:=(hs s h).2.2;omega⟩,λi k f r=> ?_⟩;obtain⟨t,u⟩:=VM r;obtain⟨v,_⟩:=f36 n i E4 _ (CY (d:=dO) t);rcases v with⟨e,w⟩|⟨_,j,a,b,c⟩
 .refine⟨e,?_⟩;have a1:=(hs _ w).2.2;have a2:=(hs _ (CY (d:=AA.d) f)).2.2;omega
 .exact absurd (c.trans (b9v u)) (o j i a b f)
theorem d7w{W H:Int}{has:List Int->Bool}{s b:BS}{i e:Int}(c:∀q,has q=false)(h:LG W H has s i e=some b)(a:∀m∈s.out,m=AE.d):∀m∈b.out,m=AE.d:=by
 have f:IJ W H has (s.out.getD i.toNat AE.d) i e=AE.d:=by
  unfold IJ;rw[c,cond_false,Jd];cases hg:s.out[i.toNat]? with
  |none=>rfl
  |some m=>exact a m (Jj hg)
 unfold LG at h;split at h
 .simp only at h;split at h
  .cases h;cases s.kn.getD (AH W H i e).toNat false with
   |true=>exact a
   |false=>
    simp only[cond_false];exact b3k (q:=λm=>m=AE.d) a f
  .cases h
 .cases h;exact a
theorem c6j{W H:Int}{has:List Int->Bool}{i:Int}(c:∀q,has q=false):∀(l:List Int) {s a:BS},MM W H has i l s=some a->(∀m∈s.out,m=AE.d)->∀m∈a.out,m=AE.d
 | [],s,a,h,b=>by cases h;exact b
 |e::l,s,a,h,b=>by simp only[MM,Jn]at h;obtain⟨s1,f,g⟩:=h;exact c6j c l g (d7w c f b)
theorem f3u{W H:Int}{has:List Int->Bool}(b:∀q,has q=false):∀(f:Nat) {s:BS} {l:List Mv},IL W H has f s=some l->(∀m∈s.out,m=AE.d)->∀m∈l,m=AE.d
 |0,s,l,h,a=>by
  simp only[IL]at h;split at h<;>cases h
  exact a
 |f+1,s,l,h,a=>by
  simp only[IL]at h;split at h
  .cases h;exact a
  .simp only[Jn]at h;obtain⟨s1,c,e⟩:=h;exact f3u b f e (c6j b _ c (s:=⟨s.out,s.kn,_⟩) a)
theorem d7z{W H:Int}:∀m∈Ao ⟨W,H,[]⟩,m=AE.d:=by
 unfold Ao;cases h:NF ⟨W,H,[]⟩with
 |none=>simp
 |some l=>
  refine f3u (λq=>rfl) _ h (λm a=> ?_);exact(List.mem_replicate.1 a).2
theorem d8a{W H i j:Int}(hs:AO W H=0)(c:0<=i)(h:i<4*W*H)(k0:0<=j)(k:j<4*W*H)(e:AJ W H i=AJ W H j):i=j:=by rw[JL hs c h,JL hs k0 k]at e;simp only[Cl.mk.injEq]at e;obtain⟨d,f,e3⟩:=e;have a:=Mt (i/4) W;have b:=Mt (j/4) W;rw[d,f]at a;omega
theorem c97{W H:Int}(hs:AO W H=0)(a:CF ⟨W,H,[]⟩ r0=0):(CA ⟨W,H,[]⟩ r0).Nodup:=by
 have P:=Rt (p:=⟨W,H,[]⟩) (r:=r0) E7 a;have hN:=CQ hs;have js:(CA ⟨W,H,[]⟩ r0).length=AF W H:=P.il;have Yz:=(Sp a).1;have fw:(BR ⟨W,H,[]⟩ r0).length=AF W H:=P.pl;have one:∀i:Nat,i<AF W H->(BR ⟨W,H,[]⟩ r0).getD i AE.d=EH AE.d r0:=λi b=>by rw[(Sp a).2 i E4];unfold KN;rw[d7z _ (CY (d:=AE.d) (show i<(Ao ⟨W,H,[]⟩).length from E4))]
 refine Kg.2 λi j b k dm e=> ?_;have f:=P.im i (by show i<AF W H;omega);have g:=P.im j (by show j<AF W H;omega);rw[Jd,Je b,L4,one i E4]at f;rw[Jd,Je k,L4,one j E4]at g;have vm:=P.vm 0 (by show 0<AF W H;omega);rw[one 0 E4]at vm;have l:=f.1.symm.trans (e.trans g.1);have ci:=JJ hs (i:=(i:Int)) E4 E4;have cj:=JJ hs (i:=(j:Int)) E4 E4;have m:=f8p (c:=AJ W H i) hs E4 E4 E4;have n:=f8p (c:=AJ W H j) hs E4 E4 E4;have:=d8a hs E4 E4 E4 E4 (d0r vm m n l);omega
theorem d8u{W H:Int}(hs:AO W H=0)(b:CF ⟨W,H,[]⟩ r0=0):RN (FL W H):=by
 have P:=Rt (p:=⟨W,H,[]⟩) (r:=r0) E7 b;have hN:=CQ hs;have js:(CA ⟨W,H,[]⟩ r0).length=AF W H:=P.il;have kl:(FL W H).length=(CA ⟨W,H,[]⟩ r0).length:=Hy;have l:=c97 hs b;have f:∀i j,i<j->j<(FL W H).length->((FL W H).getD i AA.d).c≠((FL W H).getD j AA.d).c:=λi j m n e=>by rw[c30 n,c30 (show i<(FL W H).length from E4)]at e;have:=Kg.1 l i j E4 E4 m;apply this;simpa[Jd,Je (show i<(CA ⟨W,H,[]⟩ r0).length from E4),Je (show j<(CA ⟨W,H,[]⟩ r0).length from E4)]using e
 refine d7u (nA:=(FL W H).length) E4 E4 (λs o=> ?_) (λi j g k a=>f i j g a) (λi j g k a=>f i j k a);obtain⟨i,q,rfl⟩:=QX (d:=AA.d) o;rw[c30 q];have:=(P.im i (by show i<AF W H;omega)).2.2.2;refine⟨Fd,E6,E6⟩
def c69:AK
 | [.agg [.int .i64 W,.int .i64 H]]=>some (True,.tup [.agg (Wc (OT W H) r0 (Oo W H)),.int .i64 (NH W H)])
 |_=>none
theorem d7y:PS 31 c69:=by
 refine⟨d1p.1,λA w args a pre s c d e b hp=> ?_⟩;unfold c69 at b;split at b
 .rename_i W H;cases b;exact d1p.2 A w _ a _ _ c d e rfl (λf g=>d8u f g)
 .cases b
end Go.Proofs.YtaihldljnlgnoaaGreatDoor.V
