/-
  Parts of the proof: A38 A17 F2 A39 F3 F4 F5. Conditions: none.
-/
import Derived.Test.YtdblhepcmjecgaaGreatDoorGdc3
import Derived.Test.YtdblhepcmjecgaaGreatDoorGdc5
import Derived.Test.YtdblhepcmjecgaaGreatDoorGdc8
import Derived.Test.YtdblhepcmjecgaaGreatDoorGdc10
import Derived.Test.YtdblhepcmjecgaaGreatDoorChecked
set_option maxRecDepth 100000
set_option maxHeartbeats 40000000
namespace Go.Proofs.YtdblhepcmjecgaaGreatDoor.V
open Go
def c86(m:Int):Nat→List Int→Int
 |0,_=>m
 |i+1,l=>max (c86 m i l) (l.getD i b04.d)
abbrev nMost:FuncId:=47
def g6a:Kon
 | [x,.int .i64 m]=>match b04.as x with
   |some (n,f)=>some (b04.isL n f∧n≤100000,.int .i64 (c86 m n (b04.lst n f)))
   |none=>none
 |_=>none
def j5e:Fam:=⟨List Int×Int,fun(l,m)=>[.sl 1 l.length (b04.row l) none,.int .i64 m],fun(l,_)=>l.length≤100000,fun(l,m)=>.int .i64 (c86 m l.length l)⟩
def IMost:List Int×Int→Nat→Option Inv
 |(l,m),2=>some {β:=Nat,ok:=fun i=>i≤l.length,st:=fun i=>⟨[⟨9,none,.int .i64 i⟩,⟨8,none,.int .i64 l.length⟩,⟨7,none,.sl 1 l.length (b04.row l) none⟩,⟨1,none,.int .i64 (c86 m i l)⟩],[]⟩,μ:=fun i=>l.length-i}
 |_,_=>none
theorem pMost:PS nMost g6a:=by
 refine con [] Dv j5e IMost g6a ?_ ?_ Go.Proofs.Tryz.func47 Du Du Du ?_
 ·intro args pre s h hp
  unfold g6a at h
  split at h
  ·rename_i x m
   split at h
   ·rename_i n f hx
    cases h
    exact⟨(b04.lst n f,m),⟨b2p (b04.as_leL hx hp.1),E3,Ix⟩,by simp only[j5e,RT.lst_length];exact hp.2,by simp only[j5e,RT.lst_length]⟩
   ·cases h
  ·cases h
 ·exact Bv
 ·rintro⟨l,m⟩ hp
  replace hp:l.length≤100000:=hp
  refine wlk _ ?_;(repeat' first|constructor|refine Iu fun hu=> ?_|intro h);all_goals refine Lm ?_
  refine⟨(0:Nat),J5 _,?_,?_⟩
  ·refine wlk _ ?_;(repeat' first|constructor|refine Iu fun hu=> ?_|intro h);all_goals refine Lm ?_
   all_goals first|rfl|exact Ad|exact B2|skip
  ·intro i hi
   replace hi:i≤l.length:=hi
   refine wlk _ ?_;(repeat' first|constructor|refine Iu fun hu=> ?_|intro h);all_goals refine Lm ?_
   all_goals(try simp only[I8]at*)
   all_goals(try first
    |exact An
    |(have e:i=l.length:=by omega
      subst e;rfl))
   refine⟨i+1,Hg,E6,?_⟩
   all_goals refine wlk _ ?_;(repeat' first|constructor|refine Iu fun hu=> ?_|intro h);all_goals refine Lm ?_
   all_goals first|exact B7|exact B2|rfl|skip
abbrev f9f:FuncId:=38
def d1f:Kon
 | [x,.int .i64 v]=>(d2w x).map fun q=>(q.1,.tup [.agg [.int .i64 (g2h q.2 v).x,.int .i64 (g2h q.2 v).y,.int .u8 (g2h q.2 v).q],.int .i64 (d61 q.2 v),.int .i64 (finE q.2 v)])
 |_=>none
def j20:Fam:=⟨List Stk×Int,fun(L,v)=>[b7u L,.int .i64 v],fun(L,_)=>b2y L,fun(L,v)=>.tup [.agg [.int .i64 (g2h L v).x,.int .i64 (g2h L v).y,.int .u8 (g2h L v).q],.int .i64 (d61 L v),.int .i64 (finE L v)]⟩
def j4n:List Stk×Int→Nat→Option Inv
 |(L,v),2=>some {β:=Nat,ok:=fun i=>i≤L.length∧∀j,j<i→b4g (L.getD j stR.d).l v<0,st:=fun i=>⟨[⟨12,none,.int .i64 i⟩,⟨11,none,.int .i64 L.length⟩,⟨10,none,b7u L⟩,⟨6,none,.int .i64 0⟩,⟨5,none,.int .i64 0⟩,⟨4,none,.own 0 0⟩,⟨1,none,.int .i64 v⟩],[.cells 54 [.int .i64 0,.int .i64 0,.int .u8 0]]⟩,μ:=fun i=>L.length-i}
 |_,_=>none
theorem j1r:PS f9f d1f:=by
 refine con [(d6n,c77)] (by simpa using f7f) j20 j4n d1f ?_ ?_ Go.Proofs.Tryz.func38 Du Du Du ?_
 ·intro args pre s h hp
  unfold d1f at h
  split at h
  ·rename_i x v
   simp only[Ia]at h
   obtain⟨⟨q,L⟩,hx,rfl,rfl⟩:=h
   obtain⟨h1,h2⟩:=b4j hx hp
   exact⟨(L,v),⟨h1,E3,Ix⟩,h2,rfl⟩
  ·cases h
 ·exact Bv
 ·rintro⟨L,v⟩ hp
  replace hp:b2y L:=hp
  refine wlk _ ?_;(repeat' first|constructor|refine Iu fun hu=> ?_|intro h);all_goals refine Lm ?_
  refine⟨(0:Nat),⟨J5 _,fun j hj=>Dt⟩,?_,?_⟩
  ·refine wlk _ ?_;(repeat' first|constructor|refine Iu fun hu=> ?_|intro h);all_goals refine Lm ?_
   all_goals first|exact A5|skip
  ·intro i hi
   obtain⟨cw,be⟩:=hi
   have hg:=b45 hp i
   have hl:=hp.1
   have Qg:b04.lst (L.getD i stR.d).l.length (b04.row (L.getD i stR.d).l)=(L.getD i stR.d).l:=RT.lst_row _ _
   have hisL:=b04.isL_row (L.getD i stR.d).l
   refine wlk _ ?_;(repeat' first|constructor|refine Iu fun hu=> ?_|intro h);all_goals refine Lm ?_
   all_goals(try simp only[I8,Qg]at*)
   all_goals(first
    |exact An
    |exact⟨hisL,hg⟩
    |(have e:=f1p (v:=v) (show i<L.length from Dt) be Dx
      first
      |(simp only[g2h,d61,finE,e,Ik,Option.isSome_some,K5];done)
      |(simp only[g2h,d61,finE,e,Ik,Option.isSome_some,K5];rfl))
    |(refine⟨i+1,⟨Dt,fun j hj=> ?_⟩,E6,?_⟩)
    |(have e:=d3x (L:=L) (v:=v) fun j hj=>be j Dt
      first
      |(simp only[g2h,d61,finE,e,Option.map_none,Option.getD_none];done)
      |(simp only[finE,e];rfl))
    |skip)
   ·by_cases e:j<i
    ·exact be j e
    ·have:j=i:=Dt
     subst this
     omega
   ·refine wlk _ ?_;(repeat' first|constructor|refine Iu fun hu=> ?_|intro h);all_goals refine Lm ?_
    all_goals first|exact Aq|skip
def hgL(L:List Stk):Int:=L.foldl (fun(n:Int) s=>max n s.l.length) 0
theorem g5n{L:List Stk}{i:Nat}(h:i<L.length):hgL (L.take (i+1))=max (hgL (L.take i)) ((L.getD i stR.d).l.length:Int):=by
 unfold hgL
 rw[Kn,List.foldl_append,Iv h]
 simp[h]
abbrev g16:FuncId:=45
def d01:Kon
 | [x]=>(d2w x).map fun q=>(q.1,.int .i64 (hgL q.2))
 |_=>none
def j49:Fam:=⟨List Stk,fun L=>[b7u L],fun L=>b2y L,fun L=>.int .i64 (hgL L)⟩
def j40(L:List Stk):Nat→Option Inv
 |3=>some {β:=Nat,ok:=fun i=>i≤L.length,st:=fun i=>⟨[⟨8,none,.int .i64 i⟩,⟨7,none,.int .i64 L.length⟩,⟨6,none,b7u L⟩,⟨3,none,.int .i64 (hgL (L.take i))⟩],[]⟩,μ:=fun i=>L.length-i}
 |_=>none
theorem j5d:PS g16 d01:=by
 refine con [] Dv j49 j40 d01 ?_ ?_ Go.Proofs.Tryz.func45 Du Du Du ?_
 ·intro args pre s h hp
  unfold d01 at h
  split at h
  ·rename_i x
   simp only[Ia]at h
   obtain⟨⟨q,L⟩,hx,rfl,rfl⟩:=h
   obtain⟨h1,h2⟩:=b4j hx hp
   exact⟨L,⟨h1,Ix⟩,h2,rfl⟩
  ·cases h
 ·exact Bu
 ·rintro(L:List Stk) hp
  replace hp:b2y L:=hp
  refine wlk _ ?_;(repeat' first|constructor|refine Iu fun hu=> ?_|intro h);all_goals refine Lm ?_
  refine⟨(0:Nat),J5 _,?_,?_⟩
  ·refine wlk _ ?_;(repeat' first|constructor|refine Iu fun hu=> ?_|intro h);all_goals refine Lm ?_
   all_goals first|exact A5|skip
  ·intro i hi
   replace hi:i≤L.length:=hi
   have hl:=hp.1
   refine wlk _ ?_;(repeat' first|constructor|refine Iu fun hu=> ?_|intro h);all_goals refine Lm ?_
   all_goals(try simp only[I8]at*)
   all_goals(first
    |exact An
    |(refine⟨i+1,Ed,E6,?_⟩)
    |(show hgL (L.take i)=hgL L;rw[Ki Dt])
    |skip)
   ·refine wlk _ ?_;(repeat' first|constructor|refine Iu fun hu=> ?_|intro h);all_goals refine Lm ?_
    all_goals first|exact Aq|exact(g5n Dt).symm|skip
def grt(w:Int):Int:=if w=0 then 1000 else if w=1 then 10000 else if w=2 then 1024 else if w=3 then 256 else 1000000
abbrev d5m:FuncId:=78
def c1z:Kon
 | [.int .i64 w]=>some (0≤w∧w≤4,.int .i64 (grt w))
 |_=>none
def d4e:Fam:=⟨Int,fun w=>[.int .i64 w],fun w=>0≤w∧w≤4,fun w=>.int .i64 (grt w)⟩
theorem g10:PS d5m c1z:=by
 refine con [] Dv d4e (fun _ _=>none) c1z ?_ ?_ Go.Proofs.Tryz.func78 Du Du Du ?_
 ·intro args pre s h hp
  unfold c1z at h
  split at h
  ·rename_i w;cases h;exact⟨w,by simp[d4e,b2h,SV.le2,SV.le1,SV.le0],hp,rfl⟩
  ·cases h
 ·exact Bu
 ·intro(w:Int) hp
  replace hp:0≤w∧w≤4:=hp
  have hk:w=0∨w=1∨w=2∨w=3∨w=4:=Dt
  rcases hk with rfl|rfl|rfl|rfl|rfl
  all_goals clear hp
  all_goals refine wlk _ ?_;(repeat' first|constructor|refine Iu fun hu=> ?_|intro h);all_goals refine Lm ?_
  all_goals(first|exact A5|decide|exact A4|skip)
def d8p(n l w:Int):Int:=if n<l then 1 else if grt w<n then 3 else 0
abbrev c6k:FuncId:=48
def c0q:Kon
 | [.int .i64 n,.int .i64 l,.int .i64 w]=>some (0≤w∧w≤4,.int .i64 (d8p n l w))
 |_=>none
def f9z:Fam:=⟨Int×Int×Int,fun(n,l,w)=>[.int .i64 n,.int .i64 l,.int .i64 w],fun(_,_,w)=>0≤w∧w≤4,fun(n,l,w)=>.int .i64 (d8p n l w)⟩
theorem d12:PS c6k c0q:=by
 refine con [(d5m,c1z)] (by simpa using g10) f9z (fun _ _=>none) c0q ?_ ?_ Go.Proofs.Tryz.func48 Du Du Du ?_
 ·intro args pre s h hp
  unfold c0q at h
  split at h
  ·rename_i n l w;cases h;exact⟨(n,l,w),by simp[f9z,b2h,SV.le2,SV.le1,SV.le0],hp,rfl⟩
  ·cases h
 ·exact Bw
 ·rintro⟨n,l,w⟩ hp
  replace hp:0≤w∧w≤4:=hp
  refine wlk _ ?_;(repeat' first|constructor|refine Iu fun hu=> ?_|intro h);all_goals refine Lm ?_
  all_goals(first|exact hp|(simp at*;simp[d8p, *];done)|(simp at*;unfold d8p;repeat (first|rw[if_pos Dt]|rw[if_neg Dt]))|skip)
def b4k(t s:Int):Int:=if 1≤t∧t≤1000∧1≤s∧s≤10000 then 0 else 1
theorem b4f{n l w:Int}:d8p n l w=0↔l≤n∧n≤grt w:=by
 unfold d8p
 split
 ·simp;omega
 ·split
  ·simp;omega
  ·simp;omega
theorem grt0:grt 0=1000:=rfl
theorem grt1:grt 1=10000:=rfl
theorem grt2:grt 2=1024:=rfl
theorem grt3:grt 3=256:=rfl
abbrev d15:FuncId:=23
def b7x:Kon
 | [.agg [.int .i64 t,.int .i64 s]]=>some (True,.int .i64 (b4k t s))
 |_=>none
def f8e:Fam:=⟨Int×Int,fun(t,s)=>[.agg [.int .i64 t,.int .i64 s]],fun(_,_)=>True,fun(t,s)=>.int .i64 (b4k t s)⟩
theorem c71:PS d15 b7x:=by
 refine con [(c6k,c0q)] (by simpa using d12) f8e (fun _ _=>none) b7x ?_ ?_ Go.Proofs.Tryz.func23 Du Du Du ?_
 ·intro args pre s h hp
  unfold b7x at h
  split at h
  ·rename_i t s;cases h;exact⟨(t,s),by simp[f8e,b2h,SV.le2,SV.le1,b24,SV.le0],hp,rfl⟩
  ·cases h
 ·exact Bu
 ·rintro⟨t,s⟩ hp
  replace hp:True:=hp
  refine wlk _ ?_;(repeat' first|constructor|refine Iu fun hu=> ?_|intro h);all_goals refine Lm ?_
  all_goals(try simp only[I9,Ie,b4f,grt0,grt1]at*)
  all_goals(first|(refine⟨?_,?_⟩<;>decide)|decide|(intro _;refine⟨?_,?_⟩<;>decide)|(simp at h;unfold b4k;first|rw[if_pos Dt]|rw[if_neg Dt])|skip)
theorem b4v{t s:Int}(h:b4k t s=0):1≤t∧t≤1000∧1≤s∧s≤10000:=by
 unfold b4k at h
 split at h
 ·assumption
 ·cases h
def c45(t n:Int):Int:=(355*(n+1)*t+113)/226
theorem f08{t n:Int}(h1:1≤t)(h2:t≤1000)(h3: -1≤n)(h4:n≤100000):0≤355*(n+1)*t∧355*(n+1)*t≤35500355000:=by
 have a:0≤355*(n+1)*t:=M3 Dt Dt
 have b:355*(n+1)*t≤35500355*1000:=M2 Dt h2 Dt Dt
 omega
abbrev f5g:FuncId:=46
def d44:Kon
 | [.agg [.int .i64 t,.int .i64 _],.int .i64 n]=>some (1≤t∧t≤1000∧ -1≤n∧n≤100000,.int .i64 (c45 t n))
 |_=>none
def g9t:Fam:=⟨Int×Int×Int,fun(t,s,n)=>[.agg [.int .i64 t,.int .i64 s],.int .i64 n],fun(t,_,n)=>1≤t∧t≤1000∧ -1≤n∧n≤100000,fun(t,_,n)=>.int .i64 (c45 t n)⟩
theorem g8d:PS f5g d44:=by
 refine con [] Dv g9t (fun _ _=>none) d44 ?_ ?_ Go.Proofs.Tryz.func46 Du Du Du ?_
 ·intro args pre s h hp
  unfold d44 at h
  split at h
  ·rename_i t s n;cases h;exact⟨(t,s,n),by simp[g9t,b2h,SV.le2,SV.le1,b24,SV.le0],hp,rfl⟩
  ·cases h
 ·exact Bv
 ·rintro⟨t,s,n⟩ ⟨h1,h2,h3,h4⟩
  try dsimp only at h1 h2 h3 h4
  have hm:=f08 h1 h2 h3 h4
  have hd:(355*(n+1)*t+113).tdiv 226=c45 t n:=Int.tdiv_eq_ediv_of_nonneg Dt
  refine wlk _ ?_;(repeat' first|constructor|refine Iu fun hu=> ?_|intro h);all_goals refine Lm ?_
  all_goals(first|exact A4|exact Bm|exact hd|(rw[hd];simp only[inK];unfold c45;omega)|decide|skip)
def f3s(t s n:Int):Int:=if b4k t s=0 then d8p n 0 2 else b4k t s
def g27(t s n:Int):Int:=if f3s t s n=0 then c45 t n else 0
abbrev g1r:FuncId:=21
def d4r:Kon
 | [.agg [.int .i64 t,.int .i64 s],.int .i64 n]=>some (True,.tup [.int .i64 (g27 t s n),.int .i64 (f3s t s n)])
 |_=>none
def g7q:Fam:=⟨Int×Int×Int,fun(t,s,n)=>[.agg [.int .i64 t,.int .i64 s],.int .i64 n],fun(_,_,_)=>True,fun(t,s,n)=>.tup [.int .i64 (g27 t s n),.int .i64 (f3s t s n)]⟩
theorem g9s:PS g1r d4r:=by
 refine con [(d15,b7x),(c6k,c0q),(f5g,d44)] (by simpa using⟨c71,d12,g8d⟩) g7q (fun _ _=>none) d4r ?_ ?_ Go.Proofs.Tryz.func21 Du Du Du ?_
 ·intro args pre s h hp
  unfold d4r at h
  split at h
  ·rename_i t s n;cases h;exact⟨(t,s,n),by simp[g7q,b2h,SV.le2,SV.le1,b24,SV.le0],hp,rfl⟩
  ·cases h
 ·exact Bv
 ·rintro⟨t,s,n⟩ hp
  replace hp:True:=hp
  refine wlk _ ?_;(repeat' first|constructor|refine Iu fun hu=> ?_|intro h);all_goals refine Lm ?_
  all_goals(try simp only[I9,Ie]at*)
  all_goals(first
   |(refine⟨?_,?_⟩<;>decide)
   |(rename_i h0;have a:=b4v h;have b:=b4f.1 h0;rw[grt2]at b;omega)
   |(have a:=b4v Dx;have b:=b4f.1 Dx;rw[grt2]at b;omega)
   |(simp[g27,f3s, *];done)
   |skip)
theorem g7t{B:Int}:∀(L:List Stk) (b:Int),(∀s∈L,(s.l.length:Int)≤B)→0≤b→b≤B→0≤L.foldl (fun(n:Int) s=>max n s.l.length) b∧L.foldl (fun(n:Int) s=>max n s.l.length) b≤B
 | [],b,_,h1,h2=>⟨h1,h2⟩
 |s::L,b,h,h1,h2=>by
  have hs:=h s (Kp ..)
  exact g7t L _ (fun t ht=>h t (Ju _ ht)) (by show 0≤max b (s.l.length:Int);omega) (by show max b (s.l.length:Int)≤B;omega)
theorem gh_le{L:List Stk}(h:b2y L):0≤L.foldl (fun(n:Int) s=>max n s.l.length) 0∧L.foldl (fun(n:Int) s=>max n s.l.length) 0≤100000:=g7t L 0 (fun s hs=>by have:=h.2 s hs;omega) Dt Dt
def ghX(p:Pt)(r:Mv)(L:List Stk)(t s:Int):Int:=if b1j p r L=0 then b4k t s else b1j p r L
def ghV(p:Pt)(r:Mv)(L:List Stk)(t s:Int):Int:=if ghX p r L t s=0 then L.foldl (fun(n:Int) s=>max n s.l.length) 0*t else 0
abbrev c48:FuncId:=19
def b8v:Kon
 | [x,.agg [.int .i64 t,.int .i64 s]]=>(b3z x).map fun q=>(q.1,.tup [.int .i64 (ghV q.2.1 q.2.2.1 q.2.2.2 t s),.int .i64 (ghX q.2.1 q.2.2.1 q.2.2.2 t s)])
 |_=>none
def g3p:Fam:=⟨(Pt×Mv×List Stk)×Int×Int,fun((p,r,L),t,s)=>[.agg (stC p r L),.agg [.int .i64 t,.int .i64 s]],fun((p,r,L),_)=>b5n p r∧b2b L,fun((p,r,L),t,s)=>.tup [.int .i64 (ghV p r L t s),.int .i64 (ghX p r L t s)]⟩
theorem d2k:PS c48 b8v:=by
 refine con [(c1f,b8d),(23,b7x),(g16,d01)] (by simpa using⟨d5j,c71,j5d⟩) g3p (fun _ _=>none) b8v ?_ ?_ Go.Proofs.Tryz.func19 Du Du Du ?_
 ·intro args pre s h hp
  unfold b8v at h
  split at h
  ·rename_i x t s
   simp only[Ia]at h
   obtain⟨⟨q,p,r,L⟩,hx,rfl,rfl⟩:=h
   obtain⟨h1,h2,h3⟩:=b1n hx hp
   exact Ds
  ·cases h
 ·exact Bv
 ·rintro⟨⟨p,r,L⟩,t,s⟩ ⟨bc,bm⟩
  try dsimp only at bc bm
  have hb:=gh_le bm.1
  have hX:ghX p r L t s=if b1j p r L=0 then b4k t s else b1j p r L:=rfl
  have hV:ghV p r L t s=if ghX p r L t s=0 then L.foldl (fun(n:Int) s=>max n s.l.length) 0*t else 0:=rfl
  by_cases hc:b1j p r L=0
  ·rw[Iw hc]at hX
   by_cases hg:b4k t s=0
   ·rw[Iw (by rw[hX];exact hg)]at hV
    have ht:=b4v hg
    have hm:0≤L.foldl (fun(n:Int) s=>max n s.l.length) 0*t:=M3 hb.1 Dt
    have nh:L.foldl (fun(n:Int) s=>max n s.l.length) 0*t≤100000*1000:=M2 hb.2 ht.2.1 Dt Dt
    refine wlk _ ?_;(repeat' first|constructor|refine Iu fun hu=> ?_|intro h);all_goals refine Lm ?_
    all_goals(try simp only[I8,b00,RT.lst_row,b0f,b0s,I9]at*)
    all_goals(first
     |exact A7
     |exact b2i L bm.1
     |exact Ix
     |exact hV.symm
     |(rw[hX,hg];done)
     |(simp only[inK];unfold hgL;omega)
     |skip)
   ·rw[Iy (by rw[hX];exact hg)]at hV
    refine wlk _ ?_;(repeat' first|constructor|refine Iu fun hu=> ?_|intro h);all_goals refine Lm ?_
    all_goals(try simp only[I8,b00,RT.lst_row,b0f,b0s,I9]at*)
    all_goals(first
     |exact A7
     |exact Ix
     |exact hV.symm
     |exact hX.symm
     |skip)
  ·rw[Iy hc]at hX
   rw[Iy (by rw[hX];exact hc)]at hV
   refine wlk _ ?_;(repeat' first|constructor|refine Iu fun hu=> ?_|intro h);all_goals refine Lm ?_
   all_goals(try simp only[I8,b00,RT.lst_row,b0f,b0s,I9]at*)
   all_goals(first
    |exact A7
    |exact hV.symm
    |exact hX.symm
    |skip)
theorem c5i(l:List Int)(v:Int):b4g l v<l.length:=by
 unfold b4g
 split
 ·rename_i i h
  obtain⟨hi,_⟩:=K0.1 h
  omega
 ·omega
theorem d0x{L:List Stk}(h:b2y L)(v:Int):0≤d61 L v∧d61 L v≤100000:=by
 unfold d61 f42
 cases hf:L.find? (fun s=>decide (0≤b4g s.l v))with
 |none=>simp
 |some s=>
  have h1:=List.find?_some hf
  have h2:=h.2 s (List.mem_of_find?_eq_some hf)
  have h3:=c5i s.l v
  simp only[Jz]at h1
  simp only[Ik]
  omega
def gcB(p:Pt)(L:List Stk)(c:Cr):Int:=max (d61 L c.c-d61 L (b03 p.W p.H c.c c.e)) (d61 L (b03 p.W p.H c.c c.e)-d61 L c.c)-1
def gcL(p:Pt)(L:List Stk):List (Int×Int):=p.l.mapIdx fun i c=>((i:Int),gcB p L c)
def gcR:RT (Int×Int):=⟨2,fun x=>[.int .i64 x.1,.int .i64 x.2],fun l=>match l with
 | [.int _ a,.int _ b]=>(a,b)
 |_=>(0,0),(0,0),fun _=>rfl⟩
theorem b70(p:Pt)(L:List Stk):(gcL p L).length=p.l.length:=by unfold gcL;rw[List.length_mapIdx]
theorem c2v{p:Pt}{L:List Stk}{i:Nat}(h:i<p.l.length):(gcL p L).getD i gcR.d=((i:Int),gcB p L (p.l.getD i d0)):=by
 unfold gcL
 simp[h]
theorem g49{p:Pt}{L:List Stk}{i:Nat}(h:i<p.l.length):(gcL p L).take (i+1)=(gcL p L).take i++[((i:Int),gcB p L (p.l.getD i d0))]:=by
 rw[b0u (d:=gcR.d) (by rw[b70];exact h),c2v h]
theorem g48{p:Pt}{L:List Stk}{i:Nat}(h:i≤p.l.length):((gcL p L).take i).length=i:=by
 rw[List.length_take,b70];omega
theorem j0r{p:Pt}{L:List Stk}:(gcL p L).take p.l.length=gcL p L:=by
 rw[Ki (by rw[b70];exact J2 _)]
theorem gc_app{A:List (Int×Int)}{x:Int×Int}{n:Nat}(hn:A.length=n):∀j,j<n+1→(if j<n then gcR.row A j else(List.map (fun x:Nat×List SV=>x.snd) [(0,[SV.int .i64 x.1,SV.int .i64 x.2])].reverse).getD (j-n) [])=gcR.row (A++[x]) j:=by
 subst hn
 exact b43 (R:=gcR) rfl
def rGCr(p:Pt)(r:Mv)(L:List Stk):SV:=.tup [.sl 2 (zL (b1j p r L) (gcL p L)).length (gcR.row (zL (b1j p r L) (gcL p L))) (some (zL (b1j p r L) (gcL p L)).length),.int .i64 (b1j p r L)]
abbrev nGCr:FuncId:=14
def g7n:Kon
 | [x]=>(b3z x).map fun q=>(q.1,rGCr q.2.1 q.2.2.1 q.2.2.2)
 |_=>none
def FGCr:Fam:=⟨Pt×Mv×List Stk,fun(p,r,L)=>[.agg (stC p r L)],fun(p,r,L)=>b5n p r∧b2b L,fun(p,r,L)=>rGCr p r L⟩
def IGCr:Pt×Mv×List Stk→Nat→Option Inv
 |(p,r,L),6=>some {β:=Nat,ok:=fun i=>i≤p.l.length,st:=fun i=>⟨[⟨30,none,.int .i64 i⟩,⟨29,none,.int .i64 p.l.length⟩,⟨28,none,.sl 3 p.l.length (b20 p.l) none⟩,⟨5,none,.osl 1⟩,⟨1,none,.own 0 0⟩],[.cells 31 (stC p r L),.row 58 2 i (gcR.row ((gcL p L).take i)) (some p.l.length)]⟩,μ:=fun i=>p.l.length-i}
 |_,_=>none
theorem pGCr:PS nGCr g7n:=by
 refine con [(c1f,b8d),(f9f,d1f),(b31,b1i)] (by simpa using⟨d5j,j1r,b2f⟩) FGCr IGCr g7n ?_ ?_ Go.Proofs.Tryz.func14 Du Du Du ?_
 ·intro args pre s h hp
  unfold g7n at h
  split at h
  ·rename_i x
   simp only[Ia]at h
   obtain⟨⟨q,p,r,L⟩,hx,rfl,rfl⟩:=h
   obtain⟨h1,h2,h3⟩:=b1n hx hp
   exact Ca
  ·cases h
 ·exact Bu
 ·rintro⟨p,r,L⟩ ⟨bc,bm⟩
  try dsimp only at bc bm
  by_cases hc:b1j p r L=0
  rotate_left
  ·refine wlk _ ?_;(repeat' first|constructor|refine Iu fun hu=> ?_|intro h);all_goals refine Lm ?_
   all_goals(try simp only[I8,b00,RT.lst_row,b0f,b0s,I9]at*)
   all_goals(first
    |exact A7
    |(simp[zL,hc];done)
    |rfl
    |skip)
  have hl:=bc.1.1
  all_goals refine wlk _ ?_;(repeat' first|constructor|refine Iu fun hu=> ?_|intro h);all_goals refine Lm ?_
  all_goals(try simp only[I8,b00,RT.lst_row,b0f,b0s,I9]at*)
  all_goals(try first
   |exact A7
   |(refine⟨Dt,Dt,c34 Du Dt Dt,Dt⟩))
  all_goals
   refine⟨(0:Nat),J5 _,?_,?_⟩
   ·refine wlk _ ?_;(repeat' first|constructor|refine Iu fun hu=> ?_|intro h);all_goals refine Lm ?_
    all_goals first|exact A2|exact Ag|exact Av|skip
   ·intro i hi
    replace hi:i≤p.l.length:=hi
    have hA:=@g48 p L i hi
    have pz:=d0x bm.1 (p.l.getD i d0).c
    have rh:=d0x bm.1 (b03 p.W p.H (p.l.getD i d0).c (p.l.getD i d0).e)
    have hu:i<p.l.length→0≤(p.l.getD i d0).e:=fun h=>by
     have:=bc.1.2 _ (b0c (d:=d0) h)
     simp only[inK]at this
     omega
    refine wlk _ ?_;(repeat' first|constructor|refine Iu fun hu=> ?_|intro h);all_goals refine Lm ?_
    all_goals(try simp only[I8,RT.lst_row]at*)
    all_goals(try first
     |exact B6
     |exact An
     |exact hu Dt
     |exact b2i L bm.1
     |exact Aa)
    ·have b7:i<p.l.length:=Dt
     refine⟨i+1,Ed,E6,?_⟩
     simp only[g49 b7]
     refine wlk _ ?_;(repeat' first|constructor|refine Iu fun hu=> ?_|intro h);all_goals refine Lm ?_
     all_goals first|exact Aj|exact Iw Dt|exact gc_app (x:=((i:Int),gcB p L (p.l.getD i d0))) hA|skip
    all_goals
     have ei:i=p.l.length:=Dt
     subst ei
     have fb:=b70 p L
     simp only[zL,Iw hc,j0r,fb]at*
     first
      |rfl
      |exact fb.symm
      |exact Lc some fb.symm
      |exact hc.symm
      |exact B2
      |exact B9
      |skip
def ndL(p:Pt)(L:List Stk)(t:Int):List Int:=(gcL p L).map fun x=>c45 t x.2
def ndX(p:Pt)(r:Mv)(L:List Stk)(t s:Int):Int:=if b1j p r L=0 then b4k t s else b1j p r L
def g8v:Nat→List Int→Int
 |0,_=>0
 |i+1,l=>g8v i l+l.getD i b04.d
def ndW(p:Pt)(L:List Stk)(t:Int):Int:=c86 0 p.l.length (ndL p L t)
def ndA(p:Pt)(L:List Stk)(t:Int):Int:=g8v p.l.length (ndL p L t)
theorem d69(p:Pt)(L:List Stk)(t:Int):(ndL p L t).length=p.l.length:=by unfold ndL;rw[List.length_map,b70]
theorem d6e{p:Pt}{L:List Stk}{t:Int}{i:Nat}(h:i<p.l.length):(ndL p L t).getD i b04.d=c45 t (gcB p L (p.l.getD i d0)):=by
 have h':i<(gcL p L).length:=by rw[b70];exact h
 have:=c2v (L:=L) h
 rw[It,Iv h',K6]at this
 unfold ndL
 rw[It,Jv,Iv h',this]
 rfl
theorem g7b{p:Pt}{L:List Stk}(h:b2y L)(c:Cr): -1≤gcB p L c∧gcB p L c≤100000:=by
 have a:=d0x h c.c
 have b:=d0x h (b03 p.W p.H c.c c.e)
 unfold gcB
 omega
theorem f14{t n:Int}(h1:1≤t)(h2:t≤1000)(h3: -1≤n)(h4:n≤100000):0≤c45 t n∧c45 t n≤157081218:=by
 have:=f08 h1 h2 h3 h4
 unfold c45
 omega
theorem g26{p:Pt}{L:List Stk}{t:Int}(h:b2y L)(h1:1≤t)(h2:t≤1000){i:Nat}(hi:i<p.l.length):0≤(ndL p L t).getD i b04.d∧(ndL p L t).getD i b04.d≤157081218:=by
 rw[d6e hi]
 have:=g7b (p:=p) h (p.l.getD i d0)
 exact f14 h1 h2 this.1 this.2
theorem d73{l:List Int}{n:Nat}(h:∀i,i<n→0≤l.getD i b04.d∧l.getD i b04.d≤157081218):∀i:Nat,i≤n→0≤g8v i l∧g8v i l≤157081218*i
 |0,_=>by simp[g8v]
 |i+1,hi=>by
  have a:=d73 h i Dt
  have b:=h i Dt
  simp only[g8v]
  omega
theorem d05{l:List Int}{n:Nat}(h:∀i,i<n→0≤l.getD i b04.d∧l.getD i b04.d≤157081218):∀i:Nat,i≤n→0≤c86 0 i l∧c86 0 i l≤157081218
 |0,_=>by simp[c86]
 |i+1,hi=>by
  have a:=d05 h i Dt
  have b:=h i Dt
  simp only[c86]
  omega
def g8h(p:Pt)(r:Mv)(L:List Stk)(t s:Int):SV:=.tup [.int .i64 (keep (ndX p r L t s) (ndW p L t)),.int .i64 (keep (ndX p r L t s) (ndA p L t)),.int .i64 (ndX p r L t s)]
abbrev d58:FuncId:=20
def c6q:Kon
 | [x,.agg [.int .i64 t,.int .i64 s]]=>(b3z x).map fun q=>(q.1,g8h q.2.1 q.2.2.1 q.2.2.2 t s)
 |_=>none
def FNeeds:Fam:=⟨(Pt×Mv×List Stk)×Int×Int,fun((p,r,L),t,s)=>[.agg (stC p r L),.agg [.int .i64 t,.int .i64 s]],fun((p,r,L),_)=>b5n p r∧b2b L,fun((p,r,L),t,s)=>g8h p r L t s⟩
def INeeds:(Pt×Mv×List Stk)×Int×Int→Nat→Option Inv
 |((p,r,L),t,s),9=>some {β:=Nat,ok:=fun i=>i≤p.l.length,st:=fun i=>⟨[⟨30,none,.int .i64 i⟩,⟨29,none,.int .i64 p.l.length⟩,⟨28,none,.sl 2 p.l.length (gcR.row (gcL p L)) none⟩,⟨9,none,.osl 2⟩,⟨5,none,.int .i64 (g8v i (ndL p L t))⟩,⟨3,none,.own 1 0⟩],[.cells 31 (stC p r L),.cells 65 [.int .i64 t,.int .i64 s],.row 3 1 p.l.length (fun j=>b04.sv (upto (fun j=>(ndL p L t).getD j b04.d) (fun _=>0) i j)) none]⟩,μ:=fun i=>p.l.length-i}
 |_,_=>none
theorem nd_row{p:Pt}{L:List Stk}{t:Int}{j:Nat}(hj:j<p.l.length):b04.sv (upto (fun j=>(ndL p L t).getD j b04.d) (fun _=>0) p.l.length j)=b04.row (ndL p L t) j:=by
 rw[b9z _ _ hj]
 rfl
theorem nd_lst{p:Pt}{L:List Stk}{t:Int}:(b04.lst p.l.length fun j=>b04.sv (upto (fun j=>(ndL p L t).getD j b04.d) (fun _=>0) p.l.length j))=ndL p L t:=by
 have e:=RT.lst_row b04 (ndL p L t)
 rw[d69]at e
 refine Eq.trans (List.map_congr_left fun q hq=> ?_) e
 exact Lc b04.of (nd_row Fk)
theorem d9s:PS d58 c6q:=by
 refine con [(nGCr,g7n),(23,b7x),(f5g,d44),(nMost,g6a)] (by simpa using⟨pGCr,c71,g8d,pMost⟩) FNeeds INeeds c6q ?_ ?_ Go.Proofs.Tryz.func20 Du Du Du ?_
 ·intro args pre s h hp
  unfold c6q at h
  split at h
  ·rename_i x t s
   simp only[Ia]at h
   obtain⟨⟨q,p,r,L⟩,hx,rfl,rfl⟩:=h
   obtain⟨h1,h2,h3⟩:=b1n hx hp
   exact Ds
  ·cases h
 ·exact Bv
 ·rintro⟨⟨p,r,L⟩,t,s⟩ ⟨bc,bm⟩
  try dsimp only at bc bm
  have bw:=(⟨⟨⟨b09 _,bc.1.1⟩,bc.1.2,bc.2⟩,b2i L bm.1,bm.2⟩:((d4p p.l.length (b20 p.l)∧p.l.length≤100000)∧(∀x∈p.l,inK .u8 x.e)∧0≤r.t∧r.t≤255)∧(stR.isL L.length (stR.row L)∧L.length≤100000∧∀s∈L,s.l.length≤100000)∧(∀x∈L,inK .u8 x.c.q)∧(b0j L).length≤100000)
  by_cases hc:b1j p r L=0
  rotate_left
  ·have hX:ndX p r L t s=b1j p r L:=Iy hc
   have k0:∀v,keep (ndX p r L t s) v=0:=fun v=>by unfold keep;rw[hX,if_neg hc]
   refine wlk _ ?_;(repeat' first|constructor|refine Iu fun hu=> ?_|intro h);all_goals refine Lm ?_
   all_goals(try simp only[I8,b00,RT.lst_row,b0f,b0s,I9,k0]at*)
   all_goals(first
    |exact B6
    |exact bw
    |exact hX.symm
    |rfl
    |skip)
  by_cases hg:b4k t s=0
  rotate_left
  ·have hX:ndX p r L t s=b4k t s:=Iw hc
   have k0:∀v,keep (ndX p r L t s) v=0:=fun v=>by unfold keep;rw[hX,if_neg hg]
   refine wlk _ ?_;(repeat' first|constructor|refine Iu fun hu=> ?_|intro h);all_goals refine Lm ?_
   all_goals(try simp only[I8,b00,RT.lst_row,b0f,b0s,I9,k0]at*)
   all_goals(first
    |exact B6
    |exact bw
    |exact hX.symm
    |rfl
    |skip)
  have hX:ndX p r L t s=0:=by unfold ndX;rw[if_pos hc,hg]
  have k0:∀v,keep (ndX p r L t s) v=v:=fun v=>by unfold keep;rw[if_pos hX]
  have ht:=b4v hg
  have hl:=bc.1.1
  have hZ:zL (b1j p r L) (gcL p L)=gcL p L:=Iw hc
  have fb:=b70 p L
  have fq:=d69 p L t
  have fk:=fun i (h:i<p.l.length)=>g26 (L:=L) (t:=t) bm.1 ht.1 ht.2.1 h
  refine wlk _ ?_;(repeat' first|constructor|refine Iu fun hu=> ?_|intro h);all_goals refine Lm ?_
  all_goals(try simp only[I8,b00,RT.lst_row,b0f,b0s,I9,hZ,fb]at*)
  all_goals(try first
   |exact B6
   |exact bw
   |(refine⟨Dt,Dt,c34 Du Dt Dt,Dt⟩))
  all_goals
   refine⟨(0:Nat),J5 _,?_,?_⟩
   ·refine wlk _ ?_;(repeat' first|constructor|refine Iu fun hu=> ?_|intro h);all_goals refine Lm ?_
    all_goals(try simp only[])
    all_goals first|exact A2|exact B5|skip
   ·intro i hi
    replace hi:i≤p.l.length:=hi
    have hs:=d73 fk i hi
    have hB:=g7b (p:=p) bm.1 (p.l.getD i d0)
    have hG:i<p.l.length→(gcL p L).getD i gcR.d=((i:Int),gcB p L (p.l.getD i d0)):=fun h=>c2v h
    have hN:i<p.l.length→(ndL p L t).getD i b04.d=c45 t (gcB p L (p.l.getD i d0)):=fun h=>d6e h
    refine wlk _ ?_;(repeat' first|constructor|refine Iu fun hu=> ?_|intro h);all_goals refine Lm ?_
    all_goals(try simp only[I8,k0]at*)
    all_goals(try first
     |exact B6
     |exact An)
    ·rw[hG Dt]
     exact⟨ht.1,ht.2.1,hB.1,hB.2⟩
    ·show i<p.l.length
     omega
    ·have hb:=f14 ht.1 ht.2.1 hB.1 hB.2
     simp only[Mn,Ls,hG Dt,inK]
     omega
    ·have b7:i<p.l.length:=Dt
     have hv:c45 t ((gcL p L).getD i gcR.d).2=(ndL p L t).getD i b04.d:=by rw[hG b7,hN b7]
     refine⟨i+1,Ed,E6,?_⟩
     simp only[hv,Mn,Ls]
     refine wlk _ ?_;(repeat' first|constructor|refine Iu fun hu=> ?_|intro h);all_goals refine Lm ?_
     all_goals first|exact Aj|exact fun j _=>b6h b04 (fun _ _=>rfl) (fun _ _=>rfl) (fun j=>(ndL p L t).getD j b04.d) _ i j|skip
    all_goals
     have ei:i=p.l.length:=Dt
     subst ei
     try simp only[nd_lst]
     first
      |exact⟨fun j _=>.inl rfl,hl⟩
      |rfl
      |exact hX.symm
      |skip
def ftX(p:Pt)(r:Mv)(L:List Stk)(t s part:Int):Int:=if ndX p r L t s=0 then d8p part 0 4 else ndX p r L t s
def ftV(p:Pt)(r:Mv)(L:List Stk)(t s part:Int):Bool:=if ftX p r L t s part=0 then decide (10*ndW p L t≤part*s)else false
abbrev j4x:FuncId:=22
def f80:Kon
 | [x,.agg [.int .i64 t,.int .i64 s],.int .i64 part]=>(b3z x).map fun q=>(q.1,.tup [.bool (ftV q.2.1 q.2.2.1 q.2.2.2 t s part),.int .i64 (ftX q.2.1 q.2.2.1 q.2.2.2 t s part)])
 |_=>none
def FFits:Fam:=⟨(Pt×Mv×List Stk)×(Int×Int)×Int,fun((p,r,L),(t,s),part)=>[.agg (stC p r L),.agg [.int .i64 t,.int .i64 s],.int .i64 part],fun((p,r,L),_)=>b5n p r∧b2b L,fun((p,r,L),(t,s),part)=>.tup [.bool (ftV p r L t s part),.int .i64 (ftX p r L t s part)]⟩
theorem pFits:PS j4x f80:=by
 refine con [(d58,c6q),(c6k,c0q)] (by simpa using⟨d9s,d12⟩) FFits (fun _ _=>none) f80 ?_ ?_ Go.Proofs.Tryz.func22 Du Du Du ?_
 ·intro args pre s h hp
  unfold f80 at h
  split at h
  ·rename_i x t s part
   simp only[Ia]at h
   obtain⟨⟨q,p,r,L⟩,hx,rfl,rfl⟩:=h
   obtain⟨h1,h2,h3⟩:=b1n hx hp
   exact⟨((p,r,L),(t,s),part),⟨h1,E8,E3,Ix⟩,⟨h2,h3⟩,rfl⟩
  ·cases h
 ·exact Bw
 ·rintro⟨⟨p,r,L⟩,⟨t,s⟩,part⟩ ⟨bc,bm⟩
  try dsimp only at bc bm
  have bw:=(⟨⟨⟨b09 _,bc.1.1⟩,bc.1.2,bc.2⟩,b2i L bm.1,bm.2⟩:((d4p p.l.length (b20 p.l)∧p.l.length≤100000)∧(∀x∈p.l,inK .u8 x.e)∧0≤r.t∧r.t≤255)∧(stR.isL L.length (stR.row L)∧L.length≤100000∧∀s∈L,s.l.length≤100000)∧(∀x∈L,inK .u8 x.c.q)∧(b0j L).length≤100000)
  have e1:¬ndX p r L t s=0→ftX p r L t s part=ndX p r L t s:=fun h=>Iy h
  have e2:ndX p r L t s=0→ftX p r L t s part=d8p part 0 4:=fun h=>Iw h
  have v1:¬ftX p r L t s part=0→ftV p r L t s part=false:=fun h=>Iy h
  have v2:ftX p r L t s part=0→ftV p r L t s part=decide (10*ndW p L t≤part*s):=fun h=>Iw h
  have hM:ndX p r L t s=0→d8p part 0 4=0→(0≤ndW p L t∧ndW p L t≤157081218)∧0≤part*s∧part*s≤10000000000:=fun h hl=>by
   have hc:b1j p r L=0∧b4k t s=0:=by
    unfold ndX at h
    split at h
    ·exact⟨Dx,h⟩
    ·exact absurd h Dx
   have ht:=b4v hc.2
   have hq:=b4f.1 hl
   have ni:part≤1000000:=hq.2
   refine⟨d05 (fun i hi=>g26 bm.1 ht.1 ht.2.1 hi) _ (J2 _),M3 hq.1 Dt,?_⟩
   have:=M2 ni ht.2.2.2 Dt (by omega:(0:Int)≤1000000)
   omega
  refine wlk _ ?_;(repeat' first|constructor|refine Iu fun hu=> ?_|intro h);all_goals refine Lm ?_
  all_goals(try simp only[I8,b00,RT.lst_row,b0f,b0s,I9]at*)
  all_goals(try first
   |exact B6
   |exact bw
   |decide
   |(have a:=e1 Dx
     have b:=v1 (by rw[a];assumption)
     first
      |exact b.symm
      |exact a.symm)
   |(have k:=hM Dx Dx
     have w:keep (ndX p r L t s) (ndW p L t)=ndW p L t:=Iw Dx
     have a:=e2 Dx
     have b:=v2 (by rw[a];assumption)
     first
      |exact A4
      |(rw[w];simp only[inK];omega)
      |(rw[w];exact b.symm)
      |(rw[a];exact Eq.symm Dx))
   |(have a:=e2 Dx
     have b:=v1 (by rw[a];assumption)
     first
      |exact b.symm
      |exact a.symm))
theorem g6n(t s:Int):(b4k t s=0∧1≤t∧t≤1000∧1≤s∧s≤10000)∨(b4k t s=1∧(t<1∨1000<t∨s<1∨10000<s)):=by
 unfold b4k;split<;>omega
def gpE(t s n:Int):Int:=if b4k t s=0 then d8p n 1 3 else b4k t s
def gpN(t s n:Int):Nat:=if gpE t s n=0 then n.toNat else 0
def c1h(t:Int)(n:Nat):List Int:=(List.range n).map fun(i:Nat)=>(i:Int)*t
theorem f3k(t:Int)(n:Nat):(c1h t n).length=n:=by simp[c1h]
theorem f3a(t:Int)(n j:Nat)(h:j<n):(c1h t n).getD j b04.d=(j:Int)*t:=by simp[c1h,h]
theorem gp_or(t s n:Int):(b4k t s=1∧gpE t s n=1∧gpN t s n=0)∨(b4k t s=0∧1≤t∧t≤1000∧(n<1∧gpE t s n=1∧gpN t s n=0∨256<n∧gpE t s n=3∧gpN t s n=0∨1≤n∧n≤256∧gpE t s n=0∧(gpN t s n:Int)=n)):=by
 have h:=g6n t s
 unfold gpN gpE d8p
 rw[grt3]
 rcases h with⟨h,h2,h3,_⟩|⟨h,_⟩
 ·refine .inr ⟨h,h2,h3,?_⟩
  rw[Iw h]
  by_cases h1:n<1
  ·simp[h1]
  ·by_cases h2:256<n
   ·simp[h1,h2]
   ·simp[h1,h2];omega
 ·exact .inl (by simp[h])
abbrev g97:FuncId:=43
def g79(t s n:Int):SV:=.tup [.sl 1 (c1h t (gpN t s n)).length (b04.row (c1h t (gpN t s n))) (some (c1h t (gpN t s n)).length),.int .i64 (gpE t s n)]
def f19:Kon
 | [.agg [.int .i64 t,.int .i64 s],.int .i64 n]=>some (inK .i64 n,g79 t s n)
 |_=>none
def g7h:Fam:=⟨Int×Int×Int,fun(t,s,n)=>[.agg [.int .i64 t,.int .i64 s],.int .i64 n],fun(_,_,n)=>inK .i64 n,fun(t,s,n)=>g79 t s n⟩
def ICreep(t s n:Int):Nat→Option Inv
 |9=>some {β:=Nat,ok:=fun i=>i≤n.toNat,st:=fun i=>⟨[⟨24,none,.int .i64 i⟩,⟨23,none,.int .i64 n.toNat⟩,⟨8,none,.osl 1⟩,⟨2,none,.own 0 0⟩],[.cells 65 [.int .i64 t,.int .i64 s],.row 3 1 n.toNat (fun j=>b04.sv (upto (fun j=>(j:Int)*t) (fun _=>0) i j)) (some n.toNat)]⟩,μ:=fun i=>n.toNat-i}
 |_=>none
theorem pCreep:PS g97 f19:=by
 refine con [(d15,b7x),(c6k,c0q)] (by simpa using⟨c71,d12⟩) g7h (fun(t,s,n)=>ICreep t s n) f19 ?_ ?_ Go.Proofs.Tryz.func43 Du Du Du ?_
 ·intro args pre s h hp
  unfold f19 at h
  split at h
  ·rename_i t s n;cases h;exact⟨(t,s,n),by simp[g7h,b2h,SV.le2,SV.le1,b24,SV.le0],hp,rfl⟩
  ·cases h
 ·exact Bv
 ·rintro⟨t,s,n⟩ hp
  replace hp:inK .i64 n:=hp
  have f:=gp_or t s n
  have hz:gpN t s n=0→(c1h t (gpN t s n)).length=0:=fun h=>by rw[h];rfl
  refine wlk _ ?_;(repeat' first|constructor|refine Iu fun hu=> ?_|intro h);all_goals refine Lm ?_
  all_goals(try simp only[I9,Ie]at*)
  all_goals(first
   |decide
   |exact hz I3
   |(rw[hz I3])
   |(unfold gpE;rw[if_pos Dx];done)
   |(unfold gpE;rw[if_neg Dx];done)
   |(have:=@b4f n 1 3;rw[grt3]at this;exact⟨Dt,Dt,c34 Du Dt Dt,Dt⟩)
   |skip)
  have hb:=(@b4f n 1 3).1 Dx
  rw[grt3]at hb
  have qf:gpN t s n=n.toNat:=Dt
  refine⟨(0:Nat),J5 _,?_,?_⟩
  ·refine wlk _ ?_;(repeat' first|constructor|refine Iu fun hu=> ?_|intro h);all_goals refine Lm ?_
   all_goals(first
    |exact A5
    |exact B5
    |skip)
  ·intro i hi
   replace hi:i≤n.toNat:=hi
   have ht:1≤t∧t≤1000:=Dt
   have hm:i<n.toNat→0≤(i:Int)*t∧(i:Int)*t≤256*1000:=fun h=>⟨M3 Dt Dt,M2 Dt Dt Dt Dt⟩
   have b8:(c1h t (gpN t s n)).length=n.toNat:=by rw[f3k,qf]
   refine wlk _ ?_;(repeat' first|constructor|refine Iu fun hu=> ?_|intro h);all_goals refine Lm ?_
   all_goals(try simp only[I8]at*)
   all_goals(first
    |omega
    |exact b8.symm
    |(rw[b8];done)
    |(have:=hm Dt;simp only[inK];omega)
    |exact A4
    |(refine⟨i+1,Ed,E6,?_⟩)
    |(intro j hj;show b04.sv _=b04.sv _;rw[b9z _ _ Dt,f3a _ _ _ Dt])
    |skip)
   all_goals refine wlk _ ?_;(repeat' first|constructor|refine Iu fun hu=> ?_|intro h);all_goals refine Lm ?_
   all_goals(first
    |exact Aj
    |(intro j hj;exact b6h b04 (fun _ _=>rfl) (fun _ _=>rfl) (fun j=>(j:Int)*t) _ i j)
    |skip)
end Go.Proofs.YtdblhepcmjecgaaGreatDoor.V
