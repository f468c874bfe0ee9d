/-
  Parts of the proof: L25. Conditions: none.
-/
import Derived.Test.YtaihldljnlgnoaaGreatDoorScc7
import Derived.Test.YtaihldljnlgnoaaGreatDoorScc15
set_option maxRecDepth 100000
set_option maxHeartbeats 40000000
namespace Go.Proofs.YtaihldljnlgnoaaGreatDoor.V
open Go
theorem f3x{f:FuncId}{h d:HK}(H:HS f h)(hs:∀a own r,d a own=some r->r.pre->∃b,h a own=some b/\b.pre/\b.res=r.res/\b.own=r.own/\b.chg=r.chg):HS f d:=⟨H.1,λA w a c own g r i j k l m e n=>by obtain⟨b,o,mt,p,q,s⟩:=hs a own r e n;have:=H.2 A w a c own g b i j k l m o mt;rw[p,q,s]at this;exact this⟩
theorem f6z{n:Nat}{g:Nat->List SV}{l:List Int}(a:n=l.length)(b:∀j,j<n->g j=AC.row l j):AC.lst n g=l:=by
 subst a;have e:AC.lst l.length g=AC.lst l.length (AC.row l):=by unfold RT.lst;refine List.map_congr_left λj c=> ?_;rw[b j (Jn.1 c)]
 rw[e,RT.lst_row]
theorem st_mix{L:List Stk}{k:Nat}(hk:k<L.length){c:Cl}{l:List Int}{sz n:Nat}{g:Nat->List SV}{a:Option Nat}{f:Nat->List SV}(v:sz=1)(m:n=l.length)(o:∀j,j<n->g j=AC.row l j)(r:∀q,f q=DC (decide (q=k)) [.int .i64 c.x,.int .i64 c.y,.int .u8 c.q,.sl sz n g a] (AA.row L q)):
 AA.lst L.length f=L.set k ⟨c,l⟩/\AA.isL L.length f:=by
 subst v;have s:AA.of [.int .i64 c.x,.int .i64 c.y,.int .u8 c.q,.sl 1 n g a]=(⟨c,l⟩:Stk):=by show Tq [.int .i64 c.x,.int .i64 c.y,.int .u8 c.q,.sl 1 n g a]=_;have h:AC.as (.sl 1 n g a)=some (n,g):=rfl;simp only[Tq,h,f6z m o]
 have t:f k=[.int .i64 c.x,.int .i64 c.y,.int .u8 c.q,.sl 1 n g a]:=by rw[r,Jf rfl];rfl
 have u:∀q,q≠k->f q=AA.row L q:=λq e=>by rw[r,Ji e];rfl
 constructor
 .apply Ms
  .rw[RT.lst_length,Kj]
  .intro q i a2;rw[RT.lst_length]at i;have e:(AA.lst L.length f)[q]'(by rw[RT.lst_length];exact i)=AA.of (f q):=by simp[RT.lst]
   rw[e,List.getElem_set];by_cases b:k=q
   .subst b;rw[Iz rfl,t,s]
   .rw[J3 b,u q (λe=>b e.symm)];show AA.of (AA.sv (L.getD q AA.d))=_;rw[AA.ok,Ix,Iy i];rfl
 .intro q b;by_cases e:q=k
  .subst e;rw[t,s];right;exact⟨rfl,rfl,rfl,⟨m,Et,by cases a<;>trivial,o⟩,J5⟩
  .rw[u q e];left;show AA.sv (L.getD q AA.d)=AA.sv (AA.of (AA.sv (L.getD q AA.d)));rw[AA.ok]
def KY:Pt:=⟨2,1,[]⟩
def Xs(p:Pt)(r:Mv)(L b:List Stk):HK:=λa own=>match a,own with
 | [x,.agg [.int .u8 k,.int .i64 C,.int .u8 s,.bool o]],[]=>some ⟨x=.agg (Fo KY DA b)/\k=1/\C=1/\s=1/\o=true,Oq p r,Mo p L,[]⟩
 |_,_=>none
def kFl3(a:List Stk):AM
 | [.int .i64 W,.int .i64 H]=>some (W=2/\H=1,.agg (Fo KY DA a))
 |_=>none
def YJ(p:Pt)(r:Mv)(L:List Stk):HK:=λa own=>match a,own with
 | [],[]=>some ⟨True,Oq p r,Mo p L,[]⟩
 |_,_=>none
theorem d91{p:Pt}{r:Mv}{L a:List Stk}(b:PS 28 (kFl3 a))(c:HS 30 (Xs p r L a)):HS 32 (YJ p r L):=by
 refine HG {l:=[(28,kFl3 a)],h:=[(30,Xs p r L a)],G:={gx:=λ_=>[.sel [1,2,0]]}} ⟨by simpa using b,Dx,by simpa using c⟩ ⟨Unit,λ_=>[],λ_=>[],λ_=>True,λ_=>Oq p r,λ_=>Mo p L,[]⟩ (λ_ _=>none) (YJ p r L) ?_ ?_ ?_ Tryz.func32 Dw Dw Dw ?_
 .intro args own t h hp;unfold YJ at h;split at h
  .cases h;exact⟨(),J5,rfl,J5,J5,rfl,rfl,rfl⟩
  .cases h
 .intro i;show 0<=_;decide
 .intro i;show 0<=2;decide
 .rintro⟨⟩ μ _;refine X0a _ ?_;(repeat' first|constructor|intro h)<;>refine Lm ?_
  all_goals first
   |rfl
   |exact⟨rfl,rfl⟩
   |exact⟨rfl,rfl,rfl,rfl,rfl⟩
   |exact A4
   |skip
def f0t(p:Pt)(r:Mv)(L:List Stk)(a b:Bool)(z:Int):AM
 | [x,.int .i64 i]=>if i=0 then some (x=.agg (Fo p r L),.tup [.bool a,.int .i64 z])else if i=4 then some (x=.agg (Fo p r L),.tup [.bool b,.int .i64 z])else none
 |_=>none
structure L25 (L0:List Stk) (p:Pt) (r:Mv) (L:List Stk) (T:List Stk):Prop where
 pr:prOK p r
 sn:FK L
 w:p.W=2/\p.H=1
 n0:L0.length=8
 o7:(L0.getD 7 AA.d).l.length=1
 n:L.length=4
 l3:(L.getD 3 AA.d).l.length=2
 g3:(L.getD 3 AA.d).l.getD 1 0=5
 ck:FS p r L=0
 ckm:FS ⟨p.W,p.H,[⟨1,0,1⟩]⟩ r L=13
 ckc:FS p r (L.set 1 ⟨(L.getD 1 AA.d).c,[7,1]⟩)=12
 sn2:FK (L.set 1 ⟨(L.getD 1 AA.d).c,[7,1]⟩)
 nt:T.length=4
 t0:(T.getD 0 AA.d).c=⟨-1,0,0⟩
 tl:(T.getD 0 AA.d).l.length=2
 tg:(T.getD 0 AA.d).l.getD 0 0=4
 ul:(T.getD 1 AA.d).l.length=2
 ug:(T.getD 1 AA.d).l.getD 0 0=5
theorem c3t{m L T:List Stk}{p K:Pt}{r M:Mv}{z:Int}{a b:Bool}(R:PS 31 (Uo (.agg [.int .i64 2,.int .i64 1]) (.tup [.agg (Wz KY r0 m),.int .i64 z])))(u:HS 32 (YJ p r L))(v:PS 15 (f0t p r L a b z))(o:PS 23 (Te (.agg (Fo p r L)) (.agg [.int .u8 1,.int .i64 0]) (.tup [.agg (Fo K M T),.int .i64 z])))(S:z=0)(U:a=true)(V:b=false)(F:L25 m p r L T):PS 10 UD:=by
 refine Np {l:=[(31,Uo (.agg [.int .i64 2,.int .i64 1]) (.tup [.agg (Wz KY r0 m),.int .i64 z])),(15,f0t p r L a b z),(12,TA),(23,Te (.agg (Fo p r L)) (.agg [.int .u8 1,.int .i64 0]) (.tup [.agg (Fo K M T),.int .i64 z]))],h:=[(32,YJ p r L)],fz:=λd=>Nat.beq d 80,gr:=λid=>bif Nat.beq id 15 then [.fz 12,.flat 10]else []} ⟨by simpa using⟨R,v,c5u,o⟩,Dx,by simpa using u⟩ ⟨Unit,λ_=>[],λ_=>True,λ_=>.bool true⟩ (λ_ _=>none) UD ?_ ?_ Tryz.func10 Dw Dw Dw ?_
 .intro args pre t h hp;unfold UD at h;split at h
  .cases h;exact⟨(),J5,J5,rfl⟩
  .cases h
 .intro i;show 0<=_;decide
 .rintro⟨⟩ _;obtain⟨N,W,w,X,Y,n,l3,Z,ck,A,B,C,nt,t0,tl,tg,ul,ug⟩:=F;have mw:EF p.l.length (CP.row p.l)=p.l:=CU p.l;have qq:EF 1 (λi=>(List.map (λx:Nat×List SV=>x.snd) [(0,[SV.int .i64 1,SV.int .u8 0,SV.int .u8 1])].reverse).getD i [])=[⟨1,0,1⟩]:=rfl;have s:=SW N W;have z0:Int.toNat 0=0:=rfl;have z1:Int.toNat 1=1:=rfl;have z3:Int.toNat 3=3:=rfl;have z7:Int.toNat 7=7:=rfl;have d0:AC.d=0:=rfl;have E:(m.length:Int)=8:=by rw[X];rfl
  have G:((m.getD 7 AA.d).l.length:Int)=1:=by rw[Y];rfl
  have ni:(L.length:Int)=4:=by rw[n];rfl
  have H:(T.length:Int)=4:=by rw[nt];rfl
  have I:((T.getD 0 AA.d).l.length:Int)=2:=by rw[tl];rfl
  have O:=SW N C;have e:∀(f:Nat->List SV),(∃J n g,(∀q,f q=DC (decide (q=1)) [.int .i64 (L.getD 1 AA.d).c.x,.int .i64 (L.getD 1 AA.d).c.y,.int .u8 (L.getD 1 AA.d).c.q,.sl J n g (some 2)] (AA.row L q))/\J=1/\n=2/\(∀j,j<2->g j=AC.row [7,1] j))->AA.lst L.length f=L.set 1 ⟨(L.getD 1 AA.d).c,[7,1]⟩/\AA.isL L.length f:=λf ⟨J,n,g,hf,e1,P,hg⟩=>st_mix (k:=1) Dv e1 P (by subst P;exact hg) hf;refine X0a _ ?_;(repeat' first|constructor|intro h)<;>refine Lm ?_
  all_goals(try simp only[mw,qq,RT.lst_row,Ns,OC,z0,z1,z3,z7,d0]at*)
  all_goals(try first
   |exact s
   |exact B9
   |exact Ae
   |(show _<L.length;omega)
   |(intro _;show _<L.length;omega)
   |(exfalso;simp only[S,U,V,E,G,ck,ni,Z,H,t0,I,tg,ug]at h;exact absurd h Dy)
   |exact⟨rfl,rfl⟩
   |rfl)
  .refine⟨⟨⟨?_,Dv⟩,?_,s.1.2.2⟩,s.2⟩
   .intro i hi;obtain rfl:i=0:=Dv;rfl
   .intro x hx;obtain rfl:=Js.1 hx;exact⟨Dy,Dy⟩
  .intro _;rw[(e _ ?_).1]
   .exact⟨s.1,⟨(e _ ⟨_,_,_,λ_=>rfl,rfl,rfl,λj Q=>(by rcases(show j=0\/j=1 from Dv)with rfl|rfl<;>rfl)⟩).2,s.2.1.2.1,O.2.1.2.2⟩,O.2.2⟩
   .exact⟨_,_,_,λ_=>rfl,rfl,rfl,λj Q=>(by rcases(show j=0\/j=1 from Dv)with rfl|rfl<;>rfl)⟩
  .rw[A,(e _ ?_).1,B]
   .rfl
   .exact⟨_,_,_,λ_=>rfl,rfl,rfl,λj Q=>(by rcases(show j=0\/j=1 from Dv)with rfl|rfl<;>rfl)⟩
end Go.Proofs.YtaihldljnlgnoaaGreatDoor.V
