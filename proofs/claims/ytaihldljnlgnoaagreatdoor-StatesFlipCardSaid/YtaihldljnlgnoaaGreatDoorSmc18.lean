/-
  Parts of the proof: L25. Conditions: none.
-/
import Derived.Test.YtaihldljnlgnoaaGreatDoorSmc7
import Derived.Test.YtaihldljnlgnoaaGreatDoorSmc13
import Derived.Test.YtaihldljnlgnoaaGreatDoorSmc15
import Derived.Test.YtaihldljnlgnoaaGreatDoorSmc17
set_option maxRecDepth 100000
set_option maxHeartbeats 40000000
namespace Go.Proofs.YtaihldljnlgnoaaGreatDoor.V
open Go
theorem hs_sub{f:FuncId}{h d:HK}(H:HS f h)(hs:∀a own r,d a own=some r->r.pre->∃b,h a own=some b/\b.pre/\b.res=r.res/\b.own=r.own/\b.chg=r.chg):HS f d:=⟨H.1,λA w a c own g r i j k l m e n=>by obtain⟨b,o,p,q,s,t⟩:=hs a own r e n;have:=H.2 A w a c own g b i j k l m o p;rw[q,s,t]at this;exact this⟩
theorem f6h{n:Nat}{g:Nat->List SV}{l:List Int}(a:n=l.length)(b:∀j,j<n->g j=AC.row l j):AC.lst n g=l:=by
 subst a;have e:AC.lst l.length g=AC.lst l.length (AC.row l):=by unfold RT.lst;refine Me λj c=> ?_;rw[b j (Ki.1 c)]
 rw[e,RT.lst_row]
theorem st_mix{L:List Stk}{k:Nat}(hk:k<L.length){c:Cl}{l:List Int}{sz n:Nat}{g:Nat->List SV}{a:Option Nat}{f:Nat->List SV}(v:sz=1)(m:n=l.length)(o:∀j,j<n->g j=AC.row l j)(r:∀q,f q=DW (decide (q=k)) [.int .i64 c.x,.int .i64 c.y,.int .u8 c.q,.sl sz n g a] (AA.row L q)):
 AA.lst L.length f=L.set k ⟨c,l⟩/\AA.isL L.length f:=by
 subst v;have s:AA.of [.int .i64 c.x,.int .i64 c.y,.int .u8 c.q,.sl 1 n g a]=(⟨c,l⟩:Stk):=by show Tj [.int .i64 c.x,.int .i64 c.y,.int .u8 c.q,.sl 1 n g a]=_;have h:AC.as (.sl 1 n g a)=some (n,g):=rfl;simp only[Tj,h,f6h m o]
 have t:f k=[.int .i64 c.x,.int .i64 c.y,.int .u8 c.q,.sl 1 n g a]:=by rw[r,K2 rfl];rfl
 have u:∀q,q≠k->f q=AA.row L q:=λq e=>by rw[r,K5 e];rfl
 constructor
 .apply Np
  .rw[RT.lst_length,L5]
  .intro q i a2;rw[RT.lst_length]at i;have e:(AA.lst L.length f)[q]'(by rw[RT.lst_length];exact i)=AA.of (f q):=by simp[RT.lst]
   rw[e,List.getElem_set];by_cases b:k=q
   .subst b;rw[Jf rfl,t,s]
   .rw[Jg b,u q (λe=>b e.symm)];show AA.of (AA.sv (L.getD q AA.d))=_;rw[AA.ok,Jd,Je i];rfl
 .intro q b;by_cases e:q=k
  .subst e;rw[t,s];right;exact⟨rfl,rfl,rfl,⟨m,F5,by cases a<;>trivial,o⟩,Ji⟩
  .rw[u q e];left;show AA.sv (L.getD q AA.d)=AA.sv (AA.of (AA.sv (L.getD q AA.d)));rw[AA.ok]
def KW:Pt:=⟨2,1,[]⟩
def XV(p:Pt)(r:Mv)(L b:List Stk):HK:=λa own=>match a,own with
 | [x,.agg [.int .u8 k,.int .i64 C,.int .u8 s,.bool o]],[]=>some ⟨x=.agg (BD KW CV b)/\k=1/\C=1/\s=1/\o=true,WT p r,Ur p L,[]⟩
 |_,_=>none
def kFl3(a:List Stk):AK
 | [.int .i64 W,.int .i64 H]=>some (W=2/\H=1,.agg (BD KW CV a))
 |_=>none
def Xq(p:Pt)(r:Mv)(L:List Stk):HK:=λa own=>match a,own with
 | [],[]=>some ⟨True,WT p r,Ur p L,[]⟩
 |_,_=>none
theorem d8n{p:Pt}{r:Mv}{L a:List Stk}(b:PS 28 (kFl3 a))(c:HS 30 (XV p r L a)):HS 32 (Xq p r L):=by
 refine HX {l:=[(28,kFl3 a)],h:=[(30,XV p r L a)],G:={gx:=λ_=>[.sel [1,2,0]]}} ⟨by simpa using b,E6,by simpa using c⟩ ⟨Unit,λ_=>[],λ_=>[],λ_=>True,λ_=>WT p r,λ_=>Ur p L,[]⟩ (λ_ _=>none) (Xq p r L) ?_ ?_ ?_ Tryz.func32 E5 E5 E5 ?_
 .intro args own t h hp;unfold Xq at h;split at h
  .cases h;exact⟨(),Ji,rfl,Ji,Ji,rfl,rfl,rfl⟩
  .cases h
 .intro i;show 0<=_;decide
 .intro i;show 0<=2;decide
 .rintro⟨⟩ μ _;refine X0b _ ?_;(repeat' first|constructor|intro h)<;>refine Lm ?_
  all_goals first
   |rfl
   |exact⟨rfl,rfl⟩
   |exact⟨rfl,rfl,rfl,rfl,rfl⟩
   |exact A8
   |skip
def f0f(p:Pt)(r:Mv)(L:List Stk)(a b:Bool)(z:Int):AK
 | [x,.int .i64 i]=>if i=0 then some (x=.agg (BD p r L),.tup [.bool a,.int .i64 z])else if i=4 then some (x=.agg (BD p r L),.tup [.bool b,.int .i64 z])else none
 |_=>none
structure L25 (L0:List Stk) (p:Pt) (r:Mv) (L:List Stk) (T:List Stk):Prop where
 pr:prOK p r
 sn:EV L
 w:p.W=2/\p.H=1
 n0:L0.length=8
 o7:(L0.getD 7 AA.d).l.length=1
 n:L.length=4
 l3:(L.getD 3 AA.d).l.length=2
 g3:(L.getD 3 AA.d).l.getD 1 0=5
 ck:FE p r L=0
 ckm:FE ⟨p.W,p.H,[⟨1,0,1⟩]⟩ r L=13
 ckc:FE p r (L.set 1 ⟨(L.getD 1 AA.d).c,[7,1]⟩)=12
 sn2:EV (L.set 1 ⟨(L.getD 1 AA.d).c,[7,1]⟩)
 nt:T.length=4
 t0:(T.getD 0 AA.d).c=⟨-1,0,0⟩
 tl:(T.getD 0 AA.d).l.length=2
 tg:(T.getD 0 AA.d).l.getD 0 0=4
 ul:(T.getD 1 AA.d).l.length=2
 ug:(T.getD 1 AA.d).l.getD 0 0=5
theorem c3f{m L T:List Stk}{p K:Pt}{r M:Mv}{z:Int}{a b:Bool}(Q:PS 31 (Sn (.agg [.int .i64 2,.int .i64 1]) (.tup [.agg (Wc KW r0 m),.int .i64 z])))(u:HS 32 (Xq p r L))(v:PS 15 (f0f p r L a b z))(o:PS 23 (Ry (.agg (BD p r L)) (.agg [.int .u8 1,.int .i64 0]) (.tup [.agg (BD K M T),.int .i64 z])))(R:z=0)(S:a=true)(U:b=false)(F:L25 m p r L T):PS 10 QK:=by
 refine NU {l:=[(31,Sn (.agg [.int .i64 2,.int .i64 1]) (.tup [.agg (Wc KW r0 m),.int .i64 z])),(15,f0f p r L a b z),(12,PC),(23,Ry (.agg (BD p r L)) (.agg [.int .u8 1,.int .i64 0]) (.tup [.agg (BD K M T),.int .i64 z]))],h:=[(32,Xq p r L)],fz:=λd=>Nat.beq d 80,gr:=λid=>bif Nat.beq id 15 then [.fz 12,.flat 10]else []} ⟨by simpa using⟨Q,v,Uk,o⟩,E6,by simpa using u⟩ ⟨Unit,λ_=>[],λ_=>True,λ_=>.bool true⟩ (λ_ _=>none) QK ?_ ?_ Tryz.func10 E5 E5 E5 ?_
 .intro args pre t h hp;unfold QK at h;split at h
  .cases h;exact⟨(),Ji,Ji,rfl⟩
  .cases h
 .intro i;show 0<=_;decide
 .rintro⟨⟩ _;obtain⟨pr,V,w,W,X,n,l3,Y,Z,A,B,C,nt,t0,tl,tg,ul,ug⟩:=F;have w9:EK p.l.length (DR.row p.l)=p.l:=CR p.l;have qc:EK 1 (λi=>(List.map (λx:Nat×List SV=>x.snd) [(0,[SV.int .i64 1,SV.int .u8 0,SV.int .u8 1])].reverse).getD i [])=[⟨1,0,1⟩]:=rfl;have s:=Ty pr V;have z0:Int.toNat 0=0:=rfl;have z1:Int.toNat 1=1:=rfl;have z3:Int.toNat 3=3:=rfl;have z7:Int.toNat 7=7:=rfl;have d0:AC.d=0:=rfl;have E:(m.length:Int)=8:=by rw[W];rfl
  have G:((m.getD 7 AA.d).l.length:Int)=1:=by rw[X];rfl
  have ni:(L.length:Int)=4:=by rw[n];rfl
  have H:(T.length:Int)=4:=by rw[nt];rfl
  have I:((T.getD 0 AA.d).l.length:Int)=2:=by rw[tl];rfl
  have N:=Ty pr C;have e:∀(f:Nat->List SV),(∃J n g,(∀q,f q=DW (decide (q=1)) [.int .i64 (L.getD 1 AA.d).c.x,.int .i64 (L.getD 1 AA.d).c.y,.int .u8 (L.getD 1 AA.d).c.q,.sl J n g (some 2)] (AA.row L q))/\J=1/\n=2/\(∀j,j<2->g j=AC.row [7,1] j))->AA.lst L.length f=L.set 1 ⟨(L.getD 1 AA.d).c,[7,1]⟩/\AA.isL L.length f:=λf ⟨J,n,g,hf,e1,O,hg⟩=>st_mix (k:=1) E4 e1 O (by subst O;exact hg) hf;refine X0b _ ?_;(repeat' first|constructor|intro h)<;>refine Lm ?_
  all_goals(try simp only[w9,qc,RT.lst_row,QJ,Qb,z0,z1,z3,z7,d0]at*)
  all_goals(try first
   |exact s
   |exact λ_=>⟨E4,E4⟩
   |exact Au
   |(show _<L.length;omega)
   |(intro _;show _<L.length;omega)
   |(exfalso;simp only[R,S,U,E,G,Z,ni,Y,H,t0,I,tg,ug]at h;exact absurd h E7)
   |exact⟨rfl,rfl⟩
   |rfl)
  .refine⟨⟨⟨?_,E4⟩,?_,s.1.2.2⟩,s.2⟩
   .intro i hi;obtain rfl:i=0:=E4;rfl
   .intro x hx;obtain rfl:=K4.1 hx;exact⟨E7,E7⟩
  .intro _;rw[(e _ ?_).1]
   .exact⟨s.1,⟨(e _ ⟨_,_,_,λ_=>rfl,rfl,rfl,λj P=>(by rcases(show j=0\/j=1 from E4)with rfl|rfl<;>rfl)⟩).2,s.2.1.2.1,N.2.1.2.2⟩,N.2.2⟩
   .exact⟨_,_,_,λ_=>rfl,rfl,rfl,λj P=>(by rcases(show j=0\/j=1 from E4)with rfl|rfl<;>rfl)⟩
  .rw[A,(e _ ?_).1,B]
   .rfl
   .exact⟨_,_,_,λ_=>rfl,rfl,rfl,λj P=>(by rcases(show j=0\/j=1 from E4)with rfl|rfl<;>rfl)⟩
end Go.Proofs.YtaihldljnlgnoaaGreatDoor.V
