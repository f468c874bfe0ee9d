/-
  Parts of the proof: C11. Conditions: none.
-/
import Derived.Test.YtdblhepcmjecgaaGreatDoorGdc5
import Derived.Test.YtdblhepcmjecgaaGreatDoorGdc6
set_option maxRecDepth 100000
set_option maxHeartbeats 40000000
namespace Go.Proofs.YtdblhepcmjecgaaGreatDoor.V
open Go
def cr1(x:Pa)(h:Int):Bool:=decide (h>x.a)&&decide (h<x.b)
def cr2(x y:Pa):Bool:=(decide (x.a<y.a)&&decide (y.a<x.b)&&decide (x.b<y.b))||(decide (y.a<x.a)&&decide (x.a<y.b)&&decide (y.b<x.b))
def g7p(L:List Pa)(P:List Int)(i:Nat):Bool:=P.any (cr1 (L.getD i paR.d))||(List.range i).any fun j=>cr2 (L.getD i paR.d) (L.getD j paR.d)
def crS(L:List Pa)(P:List Int):Bool:=(List.range L.length).any (g7p L P)
def crC(s:Sm):Nat→Cl
 |0=>s.a
 |_=>s.b
def c2h(s:Sm)(K:List Stk)(d:Nat):List Pa:=spL s d (f0z K (crC s d))
def crP(s:Sm)(K:List Stk)(d:Nat):List Int:=spP s d (f0z K (crC s d))
def crG(s:Sm)(K:List Stk)(d:Nat):Bool:=spG s d (f0z K (crC s d))
def crF(s:Sm)(K:List Stk):Nat→Bool
 |0=>false
 |1=>crS (c2h s K 0) (crP s K 0)
 |_=>crS (c2h s K 0) (crP s K 0)||crS (c2h s K 1) (crP s K 1)
def crB(s:Sm):Bool:=(s.ls.map (·.s)).any sdB
def negP(A B:List Int)(i k:Nat):Bool:=decide (b3f (A.getD i b04.d) (A.getD k b04.d)*b3f (B.getD i b04.d) (B.getD k b04.d)<0)
def crN(A B:List Int)(i:Nat):Bool:=(List.range i).any fun a=>(List.range a).any (negP A B a)
def crE(s:Sm)(K:List Stk):Int:=
 if(!crG s K 0||crB s)=true then 1 else if(!crG s K 1||crB s)=true then 1
 else if(crF s K 2||crN (crP s K 0) (crP s K 1) s.ps.length)=true then 12 else 0
theorem crE_1{s:Sm}{K:List Stk}(h0:(!crG s K 0||crB s)=false)(h:(!crG s K 1||crB s)=true):1=crE s K:=by
 unfold crE;rw[if_neg (by rw[h0];decide),if_pos h]
theorem crE_2{s:Sm}{K:List Stk}(h0:(!crG s K 0||crB s)=false)(h1:(!crG s K 1||crB s)=false):crE s K=if(crF s K 2||crN (crP s K 0) (crP s K 1) s.ps.length)=true then 12 else 0:=by
 unfold crE;rw[if_neg (by rw[h0];decide),if_neg (by rw[h1];decide)]
theorem b8y(s:Sm)(K:List Stk)(b:Bool):∀i,i<2→crS (c2h s K i) (crP s K i)=b→crF s K (i+1)=(crF s K i||b)
 |0,_,e=>by rw[←e];rfl
 |1,_,e=>by rw[←e];rfl
 |_+2,h,_=>Dt
theorem g8q{s:Sm}{d:Int}{l:List Int}:(spL s d l).length≤s.ls.length:=by
 unfold spL spF
 rw[Js]
 exact List.length_filter_le _ _
theorem d9a{L:List Pa}{P:List Int}(h:∀j,j<L.length→g7p L P j=false):crS L P=false:=by
 unfold crS
 rw[Ji]
 intro j hj
 rw[h j (K1.1 hj)]
 decide
theorem f9b{L:List Pa}{P:List Int}{k:Nat}(hk:k<L.length)(h:g7p L P k=true):crS L P=true:=Jc.2 ⟨k,K1.2 hk,h⟩
theorem g01{L:List Pa}{P:List Int}{k m:Nat}(hk:k<L.length)(hm:m<P.length)(h:cr1 (L.getD k paR.d) (P.getD m b04.d)=true):crS L P=true:=f9b hk (by
 unfold g7p
 rw[Jy]
 refine .inl (Jc.2 ⟨P.getD m b04.d,?_,h⟩)
 rw[It,Iv hm]
 exact Jn hm)
theorem f0f{P:List Int}{x:Pa}(h:∀j,j<P.length→cr1 x (P.getD j b04.d)=false):P.any (cr1 x)=false:=by
 rw[Ji]
 intro v hv
 obtain⟨j,hj,rfl⟩:=Jg.1 hv
 have:=h j hj
 rw[It,Iv hj]at this
 simp only[K6]at this
 rw[this]
 decide
theorem f9r{L:List Pa}{P:List Int}{k m:Nat}(hk:k<L.length)(hm:m<k)(h:cr2 (L.getD k paR.d) (L.getD m paR.d)=true):crS L P=true:=f9b hk (by
 unfold g7p
 rw[Jy]
 exact .inr (Jc.2 ⟨m,K1.2 hm,h⟩))
theorem d4q{L:List Pa}{P:List Int}{k:Nat}(h1:P.any (cr1 (L.getD k paR.d))=false)(h2:∀j,j<k→cr2 (L.getD k paR.d) (L.getD j paR.d)=false):g7p L P k=false:=by
 unfold g7p
 rw[h1,Mb,Ji]
 intro j hj
 rw[h2 j (K1.1 hj)]
 decide
theorem f8v{f:Nat→Bool}{q:Nat}(h:f q=true):(List.range (q+1)).any f=true:=Jc.2 ⟨q,K1.2 (Nat.lt_succ_self q),h⟩
theorem f48{f:Nat→Bool}{q:Nat}(h:f q=false):(List.range (q+1)).any f=(List.range q).any f:=by simp[List.range_succ,h]
theorem g6f(A B:List Int)(k:Nat):crN A B (k+1)=(crN A B k||(List.range k).any (negP A B k)):=by simp[crN,List.range_succ]
theorem c96(a b:Int):b3f a b= -1∨b3f a b=0∨b3f a b=1:=by
 unfold b3f
 split
 ·exact .inl rfl
 ·split
  ·exact .inr (.inr rfl)
  ·exact .inr (.inl rfl)
theorem j0e(a b c d:Int):inK .i64 (b3f a b*b3f c d):=by
 rcases c96 a b with e|e|e<;>rcases c96 c d with f|f|f<;>(rw[e,f];simp only[inK];omega)
def crIn(s:Sm)(K:List Stk):Prop:=(s.ps.length≤100000∧s.ls.length≤100000)∧b2y K∧(∀c,(f0z K c).length≤100000)
def nilV:SV:=.con (.slice none 0 0)
def paV(s:Sm)(K:List Stk)(d:Nat):SV:=.sl 1 (crP s K d).length (b04.row (crP s K d)) none
def paS(s:Sm)(K:List Stk):Nat→List SV
 |0=>[nilV,nilV]
 |1=>[paV s K 0,nilV]
 |_=>[paV s K 0,paV s K 1]
def g5j(s:Sm)(K:List Stk)(i:Nat)(rest:List Blk):List Blk:=.cells 143 (d2v s)::.cells 216 (paS s K i)::.row 54 3 2 (clR.row [s.a,s.b]) none::rest
def f3t(s:Sm)(K:List Stk)(d:Nat):Bool:= !crG s K d||crB s
def lpV(s:Sm)(K:List Stk)(d n:Nat):SV:=.sl 2 n (paR.row (c2h s K d)) none
abbrev crX(s:Sm)(K:List Stk)(d k:Nat):Pa:=(c2h s K d).getD k paR.d
def paC(x:Pa):Blk:=.cells 184 [.int .i64 x.a,.int .i64 x.b]
def ICr:Sm×List Stk→Nat→Option Inv
 |(s,K),4=>some {β:=Nat,ok:=fun i=>i≤2∧(1≤i→f3t s K 0=false)∧(2≤i→f3t s K 1=false),st:=fun i=>⟨[⟨27,none,.int .i64 i⟩,⟨26,none,.int .i64 2⟩,⟨25,none,.osl 2⟩,⟨6,none,.bool (crF s K i)⟩,⟨5,none,.own 1 0⟩,⟨2,none,.own 0 0⟩,⟨1,none,b7u K⟩],g5j s K i []⟩,μ:=fun i=>2-i,sub:=fun i=>some fun
  |12=>some {β:=Nat,ok:=fun k=>k≤(c2h s K i).length∧∀j,j<k→g7p (c2h s K i) (crP s K i) j=false,st:=fun k=>⟨[⟨56,none,.int .i64 k⟩,⟨55,none,.int .i64 (c2h s K i).length⟩,⟨54,none,lpV s K i (c2h s K i).length⟩,⟨11,none,paV s K i⟩,⟨10,none,lpV s K i (c2h s K i).length⟩,⟨27,none,.int .i64 i⟩,⟨26,none,.int .i64 2⟩,⟨25,none,.osl 2⟩,⟨6,none,.bool (crF s K i)⟩,⟨5,none,.own 1 0⟩,⟨2,none,.own 0 0⟩,⟨1,none,b7u K⟩],g5j s K (i+1) []⟩,μ:=fun k=>(c2h s K i).length-k,sub:=fun k=>some fun
   |15=>some {β:=Nat,ok:=fun m=>m≤(crP s K i).length∧∀j,j<m→cr1 (crX s K i k) ((crP s K i).getD j b04.d)=false,st:=fun m=>⟨[⟨63,none,.int .i64 m⟩,⟨62,none,.int .i64 (crP s K i).length⟩,⟨61,none,paV s K i⟩,⟨14,none,.own 3 0⟩,⟨13,none,.int .i64 k⟩,⟨56,none,.int .i64 k⟩,⟨55,none,.int .i64 (c2h s K i).length⟩,⟨54,none,lpV s K i (c2h s K i).length⟩,⟨11,none,paV s K i⟩,⟨10,none,lpV s K i (c2h s K i).length⟩,⟨27,none,.int .i64 i⟩,⟨26,none,.int .i64 2⟩,⟨25,none,.osl 2⟩,⟨6,none,.bool (crF s K i)⟩,⟨5,none,.own 1 0⟩,⟨2,none,.own 0 0⟩,⟨1,none,b7u K⟩],g5j s K (i+1) [paC (crX s K i k)]⟩,μ:=fun m=>(crP s K i).length-m}
   |21=>some {β:=Nat,ok:=fun m=>m≤k∧(crP s K i).any (cr1 (crX s K i k))=false∧∀j,j<m→cr2 (crX s K i k) (crX s K i j)=false,st:=fun m=>⟨[⟨82,none,.int .i64 m⟩,⟨81,none,.int .i64 k⟩,⟨80,none,lpV s K i k⟩,⟨14,none,.own 3 0⟩,⟨56,none,.int .i64 k⟩,⟨55,none,.int .i64 (c2h s K i).length⟩,⟨54,none,lpV s K i (c2h s K i).length⟩,⟨11,none,paV s K i⟩,⟨10,none,lpV s K i (c2h s K i).length⟩,⟨27,none,.int .i64 i⟩,⟨26,none,.int .i64 2⟩,⟨25,none,.osl 2⟩,⟨6,none,.bool (crF s K i)⟩,⟨5,none,.own 1 0⟩,⟨2,none,.own 0 0⟩,⟨1,none,b7u K⟩],g5j s K (i+1) [paC (crX s K i k)]⟩,μ:=fun m=>k-m}
   |_=>none}
  |_=>none}
 |(s,K),29=>some {β:=Nat,ok:=fun i=>i≤s.ps.length,st:=fun i=>⟨[⟨132,none,.int .i64 i⟩,⟨131,none,.int .i64 s.ps.length⟩,⟨6,none,.bool (crF s K 2||crN (crP s K 0) (crP s K 1) i)⟩,⟨5,none,.own 1 0⟩],[.cells 143 (d2v s),.cells 216 (paS s K 2)]⟩,μ:=fun i=>s.ps.length-i,sub:=fun i=>some fun
  |32=>some {β:=Nat,ok:=fun k=>k≤i,st:=fun k=>⟨[⟨136,none,.int .i64 k⟩,⟨135,none,.int .i64 i⟩,⟨19,none,.int .i64 i⟩,⟨132,none,.int .i64 i⟩,⟨131,none,.int .i64 s.ps.length⟩,⟨6,none,.bool (crF s K 2||crN (crP s K 0) (crP s K 1) i||(List.range k).any (negP (crP s K 0) (crP s K 1) i))⟩,⟨5,none,.own 1 0⟩],[.cells 143 (d2v s),.cells 216 (paS s K 2)]⟩,μ:=fun k=>i-k}
  |_=>none}
 |_,_=>none
def FCr:Fam:=⟨Sm×List Stk,fun(s,K)=>[.agg (d2v s),b7u K],fun(s,K)=>crIn s K,fun(s,K)=>.int .i64 (crE s K)⟩
abbrev f1g:FuncId:=63
def c4m:Kon
 | [x,y]=>match asSm x,d2w y with
   |some q,some u=>some (q.1∧u.1∧crIn q.2 u.2,.int .i64 (crE q.2 u.2))
   |_,_=>none
 |_=>none
theorem g4w:PS f1g c4m:=by
 refine con [(nStAt,g4v),(g7a,f29),(g9w,f17),(j0z,g6k)] (by simpa using⟨pStAt,pSpans,pCntFL,pCmp⟩) FCr ICr c4m ?_ ?_ Go.Proofs.Tryz.func63 Du Du Du ?_
 ·intro args pre s h hp
  unfold c4m at h
  split at h
  ·rename_i x y
   split at h
   ·rename_i q u h1 h2
    cases h
    exact⟨(q.2,u.2),⟨g1q h1 hp.1,(b4j h2 hp.2.1).1,Ix⟩,hp.2.2,rfl⟩
   ·cases h
  ·cases h
 ·exact Bv
 ·rintro⟨s,K⟩ ⟨⟨bc,bm⟩,jb,qx⟩
  refine wlk _ ?_;(repeat' first|constructor|refine Iu fun hu=> ?_|intro h);all_goals refine Lm ?_
  refine⟨(0:Nat),⟨Dy,fun h=>absurd h Dy,fun h=>absurd h Dy⟩,?_,?_⟩
  ·refine wlk _ ?_;(repeat' first|constructor|refine Iu fun hu=> ?_|intro h);all_goals refine Lm ?_
   all_goals first|exact A2|(intro j hj;rcases(show j=0∨j=1 from Dt)with rfl|rfl<;>rfl)|skip
  ·intro i hi
   obtain⟨hi,cw,be⟩:=hi
   replace hi:i≤2:=hi
   rcases(show i=0∨i=1∨i=2 from Dt)with rfl|rfl|rfl
   ·refine wlk _ ?_;(repeat' first|constructor|refine Iu fun hu=> ?_|intro h);all_goals refine Lm ?_
    all_goals(try simp only[I8,RT.lst_row]at*)
    all_goals(try first
     |exact Ah)
    have Pc:(crP s K 0).length=s.ps.length:=c0p
    have hLl:(c2h s K 0).length≤s.ls.length:=g8q
    have b6:(1≤1→f3t s K 0=false)∧(2≤1→f3t s K 1=false):=⟨fun _=>h,fun e=>absurd e Dy⟩
    refine⟨(0:Nat),⟨J5 _,fun j hj=>absurd hj (Je _)⟩,?_,?_⟩
    ·refine wlk _ ?_;(repeat' first|constructor|refine Iu fun hu=> ?_|intro h);all_goals refine Lm ?_
     all_goals first|exact A2|skip
    ·intro k hk
     obtain⟨m7,df⟩:=hk
     refine wlk _ ?_;(repeat' first|constructor|refine Iu fun hu=> ?_|intro h);all_goals refine Lm ?_
     all_goals(try simp only[I8]at*)
     all_goals(try first
      |exact An)
     ·have m8:k<(c2h s K 0).length:=Dt
      refine⟨(0:Nat),⟨J5 _,fun j hj=>absurd hj (Je _)⟩,?_,?_⟩
      ·refine wlk _ ?_;(repeat' first|constructor|refine Iu fun hu=> ?_|intro h);all_goals refine Lm ?_
       all_goals first|exact A2|skip
      ·intro m hm
       obtain⟨t7,nh⟩:=hm
       refine wlk _ ?_;(repeat' first|constructor|refine Iu fun hu=> ?_|intro h);all_goals refine Lm ?_
       all_goals(try simp only[I8]at*)
       all_goals(try first
        |exact An
        |exact⟨Du,Dt,Dt,Dt⟩)
       ·have hs:crS (c2h s K 0) (crP s K 0)=true:=g01 (m:=m) m8 Dt (by unfold cr1;assumption)
        refine⟨(1:Nat),⟨Dy,b6.1,b6.2⟩,Dy,?_⟩
        refine wlk _ ?_;(repeat' first|constructor|refine Iu fun hu=> ?_|intro h);all_goals refine Lm ?_
        all_goals first|exact Bq|skip
       ·refine⟨m+1,⟨Dt,fun j hj=> ?_⟩,by show _-(m+1)<_-m;omega,?_⟩
        ·by_cases e:j<m
         ·exact nh j e
         ·have:j=m:=Dt
          subst this
          assumption
        ·refine wlk _ ?_;(repeat' first|constructor|refine Iu fun hu=> ?_|intro h);all_goals refine Lm ?_
         all_goals first|exact Aj|skip
       ·have vu:=f0f (x:=crX s K 0 k) fun j hj=>nh j Dt
        refine⟨(0:Nat),⟨J5 _,vu,fun j hj=>absurd hj (Je _)⟩,?_,?_⟩
        ·refine wlk _ ?_;(repeat' first|constructor|refine Iu fun hu=> ?_|intro h);all_goals refine Lm ?_
         all_goals first|exact Aj|(intro j _;simp;done)|skip
        ·intro q hq
         obtain⟨ww,me,ni⟩:=hq
         refine wlk _ ?_;(repeat' first|constructor|refine Iu fun hu=> ?_|intro h);all_goals refine Lm ?_
         all_goals(try simp only[I8]at*)
         all_goals(try first
          |exact An)
         ·have hs:crS (c2h s K 0) (crP s K 0)=true:=f9r (m:=q) m8 Dt (by unfold cr2;assumption)
          refine⟨(1:Nat),⟨Dy,b6.1,b6.2⟩,Dy,?_⟩
          refine wlk _ ?_;(repeat' first|constructor|refine Iu fun hu=> ?_|intro h);all_goals refine Lm ?_
          all_goals first|exact Bq|skip
         ·refine⟨q+1,⟨Dt,me,fun j hj=> ?_⟩,H8,?_⟩
          ·by_cases e:j<q
           ·exact ni j e
           ·have:j=q:=Dt
            subst this
            unfold cr2
            assumption
          ·refine wlk _ ?_;(repeat' first|constructor|refine Iu fun hu=> ?_|intro h);all_goals refine Lm ?_
           all_goals first|exact Aj|skip
         ·refine⟨k+1,⟨Dt,fun j hj=> ?_⟩,Gg,?_⟩
          ·by_cases e:j<k
           ·exact df j e
           ·have:j=k:=Dt
            subst this
            exact d4q me fun i hi=>ni i Dt
          ·refine wlk _ ?_;(repeat' first|constructor|refine Iu fun hu=> ?_|intro h);all_goals refine Lm ?_
           all_goals first|exact Aj|skip
     ·have hs:crS (c2h s K 0) (crP s K 0)=false:=d9a fun j hj=>df j Dt
      refine⟨(1:Nat),⟨Dy,b6.1,b6.2⟩,Dy,?_⟩
      refine wlk _ ?_;(repeat' first|constructor|refine Iu fun hu=> ?_|intro h);all_goals refine Lm ?_
      all_goals first|exact Aj|exact(b8y s K false 0 Dy hs).symm|exact((b8y s K false 0 Dy hs).trans (Mh _)).symm|skip
   ·refine wlk _ ?_;(repeat' first|constructor|refine Iu fun hu=> ?_|intro h);all_goals refine Lm ?_
    all_goals(try simp only[I8,RT.lst_row]at*)
    all_goals(try first
     |exact Ah)
    have Pc:(crP s K 1).length=s.ps.length:=c0p
    have hLl:(c2h s K 1).length≤s.ls.length:=g8q
    have b6:(1≤2→f3t s K 0=false)∧(2≤2→f3t s K 1=false):=⟨fun _=>cw (J2 1),fun _=>h⟩
    refine⟨(0:Nat),⟨J5 _,fun j hj=>absurd hj (Je _)⟩,?_,?_⟩
    ·refine wlk _ ?_;(repeat' first|constructor|refine Iu fun hu=> ?_|intro h);all_goals refine Lm ?_
     all_goals first|exact A2|skip
    ·intro k hk
     obtain⟨m7,df⟩:=hk
     refine wlk _ ?_;(repeat' first|constructor|refine Iu fun hu=> ?_|intro h);all_goals refine Lm ?_
     all_goals(try simp only[I8]at*)
     all_goals(try first
      |exact An)
     ·have m8:k<(c2h s K 1).length:=Dt
      refine⟨(0:Nat),⟨J5 _,fun j hj=>absurd hj (Je _)⟩,?_,?_⟩
      ·refine wlk _ ?_;(repeat' first|constructor|refine Iu fun hu=> ?_|intro h);all_goals refine Lm ?_
       all_goals first|exact A2|skip
      ·intro m hm
       obtain⟨t7,nh⟩:=hm
       refine wlk _ ?_;(repeat' first|constructor|refine Iu fun hu=> ?_|intro h);all_goals refine Lm ?_
       all_goals(try simp only[I8]at*)
       all_goals(try first
        |exact An
        |exact⟨Du,Dt,Dt,Dt⟩)
       ·have hs:crS (c2h s K 1) (crP s K 1)=true:=g01 (m:=m) m8 Dt (by unfold cr1;assumption)
        refine⟨(2:Nat),⟨Dy,b6.1,b6.2⟩,Dy,?_⟩
        refine wlk _ ?_;(repeat' first|constructor|refine Iu fun hu=> ?_|intro h);all_goals refine Lm ?_
        all_goals first|exact Bs|skip
       ·refine⟨m+1,⟨Dt,fun j hj=> ?_⟩,by show _-(m+1)<_-m;omega,?_⟩
        ·by_cases e:j<m
         ·exact nh j e
         ·have:j=m:=Dt
          subst this
          assumption
        ·refine wlk _ ?_;(repeat' first|constructor|refine Iu fun hu=> ?_|intro h);all_goals refine Lm ?_
         all_goals first|exact Aj|skip
       ·have vu:=f0f (x:=crX s K 1 k) fun j hj=>nh j Dt
        refine⟨(0:Nat),⟨J5 _,vu,fun j hj=>absurd hj (Je _)⟩,?_,?_⟩
        ·refine wlk _ ?_;(repeat' first|constructor|refine Iu fun hu=> ?_|intro h);all_goals refine Lm ?_
         all_goals first|exact Aj|(intro j _;simp;done)|skip
        ·intro q hq
         obtain⟨ww,me,ni⟩:=hq
         refine wlk _ ?_;(repeat' first|constructor|refine Iu fun hu=> ?_|intro h);all_goals refine Lm ?_
         all_goals(try simp only[I8]at*)
         all_goals(try first
          |exact An)
         ·have hs:crS (c2h s K 1) (crP s K 1)=true:=f9r (m:=q) m8 Dt (by unfold cr2;assumption)
          refine⟨(2:Nat),⟨Dy,b6.1,b6.2⟩,Dy,?_⟩
          refine wlk _ ?_;(repeat' first|constructor|refine Iu fun hu=> ?_|intro h);all_goals refine Lm ?_
          all_goals first|exact Bs|skip
         ·refine⟨q+1,⟨Dt,me,fun j hj=> ?_⟩,H8,?_⟩
          ·by_cases e:j<q
           ·exact ni j e
           ·have:j=q:=Dt
            subst this
            unfold cr2
            assumption
          ·refine wlk _ ?_;(repeat' first|constructor|refine Iu fun hu=> ?_|intro h);all_goals refine Lm ?_
           all_goals first|exact Aj|skip
         ·refine⟨k+1,⟨Dt,fun j hj=> ?_⟩,Gg,?_⟩
          ·by_cases e:j<k
           ·exact df j e
           ·have:j=k:=Dt
            subst this
            exact d4q me fun i hi=>ni i Dt
          ·refine wlk _ ?_;(repeat' first|constructor|refine Iu fun hu=> ?_|intro h);all_goals refine Lm ?_
           all_goals first|exact Aj|skip
     ·have hs:crS (c2h s K 1) (crP s K 1)=false:=d9a fun j hj=>df j Dt
      refine⟨(2:Nat),⟨Dy,b6.1,b6.2⟩,Dy,?_⟩
      refine wlk _ ?_;(repeat' first|constructor|refine Iu fun hu=> ?_|intro h);all_goals refine Lm ?_
      all_goals first|exact Aj|exact(b8y s K false 1 Dy hs).symm|exact((b8y s K false 1 Dy hs).trans (Mh _)).symm|skip
   ·refine wlk _ ?_;(repeat' first|constructor|refine Iu fun hu=> ?_|intro h);all_goals refine Lm ?_
    all_goals(try simp only[I8,RT.lst_row]at*)
    all_goals(try omega)
    have Pc:(crP s K 0).length=s.ps.length:=c0p
    have hPm:(crP s K 1).length=s.ps.length:=c0p
    refine⟨(0:Nat),J5 _,?_,?_⟩
    ·refine wlk _ ?_;(repeat' first|constructor|refine Iu fun hu=> ?_|intro h);all_goals refine Lm ?_
     all_goals first|exact A2|exact(Mh _).symm|(rw[Pc];done)|skip
    ·intro k hk
     replace hk:k≤s.ps.length:=hk
     refine wlk _ ?_;(repeat' first|constructor|refine Iu fun hu=> ?_|intro h);all_goals refine Lm ?_
     all_goals(try simp only[I8]at*)
     ·refine⟨(0:Nat),J5 _,?_,?_⟩
      ·refine wlk _ ?_;(repeat' first|constructor|refine Iu fun hu=> ?_|intro h);all_goals refine Lm ?_
       all_goals first|exact A2|exact(Mh _).symm|skip
      ·intro q hq
       replace hq:q≤k:=hq
       refine wlk _ ?_;(repeat' first|constructor|refine Iu fun hu=> ?_|intro h);all_goals refine Lm ?_
       all_goals(try simp only[I8]at*)
       all_goals(try first
        |exact An
        |exact j0e _ _ _ _
        |exact Au)
       ·refine⟨q+1,by show q+1≤k;omega,by show k-(q+1)<k-q;omega,?_⟩
        refine wlk _ ?_;(repeat' first|constructor|refine Iu fun hu=> ?_|intro h);all_goals refine Lm ?_
        all_goals first|exact Aj|(have e:=f8v (f:=negP (crP s K 0) (crP s K 1) k) (q:=q) (Jw h);rw[e,Bool.or_true];done)|skip
       ·refine⟨q+1,by show q+1≤k;omega,by show k-(q+1)<k-q;omega,?_⟩
        refine wlk _ ?_;(repeat' first|constructor|refine Iu fun hu=> ?_|intro h);all_goals refine Lm ?_
        all_goals first|exact Aj|(have e:=f48 (f:=negP (crP s K 0) (crP s K 1) k) (q:=q) (Jq h);rw[e];done)|skip
       ·have e:q=k:=Dt
        subst e
        refine⟨q+1,by show q+1≤_;omega,H8,?_⟩
        refine wlk _ ?_;(repeat' first|constructor|refine Iu fun hu=> ?_|intro h);all_goals refine Lm ?_
        all_goals first|exact Aj|(rw[g6f,Bool.or_assoc];done)|skip
     ·have e:k=s.ps.length:=Dt
      subst e
      rw[crE_2 (cw Dy) (be Dy),Iw Dx]
     ·have e:k=s.ps.length:=Dt
      subst e
      rw[crE_2 (cw Dy) (be Dy),Iy (by simp_all)]
end Go.Proofs.YtdblhepcmjecgaaGreatDoor.V
