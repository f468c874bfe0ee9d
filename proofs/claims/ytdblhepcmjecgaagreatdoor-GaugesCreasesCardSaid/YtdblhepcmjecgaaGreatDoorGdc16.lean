/-
  Parts of the proof: C29 N2 N3. Conditions: none.
-/
import Derived.Test.YtdblhepcmjecgaaGreatDoorGdc3
import Derived.Test.YtdblhepcmjecgaaGreatDoorGdc5
import Derived.Test.YtdblhepcmjecgaaGreatDoorGdc8
import Derived.Test.YtdblhepcmjecgaaGreatDoorGdc10
import Derived.Test.YtdblhepcmjecgaaGreatDoorGdc11
import Derived.Test.YtdblhepcmjecgaaGreatDoorGdc12
import Derived.Test.YtdblhepcmjecgaaGreatDoorGdc13
import Derived.Test.YtdblhepcmjecgaaGreatDoorGdc14
import Derived.Test.YtdblhepcmjecgaaGreatDoorGdc15
set_option maxRecDepth 100000
set_option maxHeartbeats 40000000
namespace Go.Proofs.YtdblhepcmjecgaaGreatDoor.V
open Go
theorem pDo:PS nDo kDo:=by
 refine f04 {l:=[(c1f,b8d),(c0z,b7i),(c57,c0k),(d62,d0j),(d4k,c64),(d5c,c5q),(c54,c0a),(d6r,d1z),(f4k,d4s),(nUp,kUp)],h:=[(d32,c5n)]} ⟨by simpa using⟨d5j,g6c,j39,j12,pSplit,pStRev,j0a,j25,pOver,pUp⟩,Dv,by simpa using pHCrd⟩ FDo (fun _ _=>none) kDo ?_ ?_ Go.Proofs.Tryz.func37 Du Du Du ?_
 ·intro args pre s h hp
  unfold kDo at h
  split at h
  ·rename_i x k C sd o
   simp only[Ia]at h
   obtain⟨⟨q,p,r,L⟩,hx,rfl,rfl⟩:=h
   obtain⟨h1,h2,h3⟩:=b1n hx hp.1
   exact⟨((p,r,L),(k,C,sd),o),⟨h1,E8,Ix⟩,⟨⟨h2,h3⟩,hp.2⟩,rfl⟩
  ·cases h
 ·exact Bv
 ·rintro⟨⟨p,r,L⟩,⟨k,C,s⟩,o⟩ ⟨⟨bc,bm⟩,h0⟩
  try dsimp only at bc bm h0
  show DoG ((p,r,L),(k,C,s),o)
  by_cases hc:b1j p r L=0
  ·by_cases hf:b6x k C s=0
   ·by_cases hq:psE k C p r=0
    ·have I:=j0v bc bm hc hf h0
     by_cases hu:(doU k C p r).length=0
     ·exact do_e4 bc bm h0 hc hf hq I hu
     ·rcases I.hs with rfl|py
      ·cases o
       ·exact do_0f bc bm hc hf hq I hu
       ·exact do_0t bc bm hc hf hq I hu
      ·cases o
       ·exact do_1f py bc bm hc hf hq I hu
       ·exact do_1t py bc bm hc hf hq I hu
    ·exact do_e3 bc bm h0 hc hf hq
   ·exact do_e2 bc bm h0 hc hf
  ·exact do_e1 bc bm h0 hc
def u8R:RT Int:=⟨1,fun x=>[.int .u8 x],fun l=>match l with
 | [.int _ a]=>a
 |_=>0,0,fun _=>rfl⟩
def fSV(w h:Int)(l:List Int):List SV:=[.int .u8 w,.int .u8 h,.sl 1 l.length (u8R.row l) none]
def asF:SV→Option (Prop×Int×Int×List Int)
 |.agg [.int .u8 w,.int .u8 h,x]=>(u8R.as x).map fun q=>(u8R.isL q.1 q.2∧(0≤w∧w≤255)∧(0≤h∧h≤255)∧∀b∈u8R.lst q.1 q.2,0≤b∧b≤255,w,h,u8R.lst q.1 q.2)
 |_=>none
def fOK(w h:Int)(l:List Int):Prop:=(0≤w∧w≤255)∧(0≤h∧h≤255)∧∀b∈l,0≤b∧b≤255
theorem f9a{s:SV}{q:Prop}{w h:Int}{l:List Int}(k:asF s=some (q,w,h,l))(hq:q):s.le2 (.agg (fSV w h l))∧fOK w h l:=by
 unfold asF at k
 split at k
 ·rename_i w' h' x
  simp only[Ia]at k
  obtain⟨v,hv,rfl,rfl,rfl,rfl⟩:=k
  refine⟨?_,hq.2⟩
  have:=u8R.as_leL hv hq.1
  simp only[SV.le2,SV.le1,b24,fSV]
  exact⟨Dz,Dz,this,Ix⟩
 ·cases k
def shW(w:Int):Int:=1+w%4
abbrev d7i:FuncId:=36
def c5c:Kon
 | [x]=>(asF x).map fun q=>(q.1,.agg [.int .i64 (shW q.2.1),.int .i64 (shW q.2.2.1)])
 |_=>none
def j41:Fam:=⟨Int×Int×List Int,fun(w,h,l)=>[.agg (fSV w h l)],fun(w,h,l)=>fOK w h l,fun(w,h,_)=>.agg [.int .i64 (shW w),.int .i64 (shW h)]⟩
theorem f85:PS d7i c5c:=by
 refine con [] Dv j41 (fun _ _=>none) c5c ?_ ?_ Go.Proofs.Tryz.func36 Du Du Du ?_
 ·intro args pre s h hp
  unfold c5c at h
  split at h
  ·rename_i x
   simp only[Ia]at h
   obtain⟨⟨q,w,hh,l⟩,hx,rfl,rfl⟩:=h
   obtain⟨h1,h2⟩:=f9a hx hp
   exact Cx
  ·cases h
 ·exact Bu
 ·rintro⟨w,h,l⟩ ⟨h1,h2,_⟩
  try dsimp only at h1 h2
  have e1:w.tmod 4=w%4:=L5 h1.1
  have e2:h.tmod 4=h%4:=L5 h2.1
  refine wlk _ ?_;(repeat' first|constructor|refine Iu fun hu=> ?_|intro h);all_goals refine Lm ?_
  all_goals(first
   |decide
   |(simp only[e1,e2,inK];omega)
   |(intro _;simp only[e1,e2,inK];omega)
   |(simp only[e1,e2];unfold shW;first|done|rfl|omega)
   |skip)
abbrev Sta:=Pt×Mv×List Stk
def f61(w h:Int):Sta:=(flP (shW w) (shW h),r0,flL (shW w) (shW h))
def d5p(x:Sta):List Fd:=zL (b1j x.1 x.2.1 x.2.2) (fdL (lnL x.1 x.2.1))
def f8s(x:Sta)(f:Fd):Int:=doE f.1 f.2.1 f.2.2.1 f.2.2.2 x.1 x.2.1 x.2.2
def c5h(x:Sta)(f:Fd):Sta:=(zP (f8s x f) (doP f.1 f.2.1 f.2.2.2 x.1 x.2.1),zR (f8s x f) (doR f.1 f.2.1 f.2.2.1 x.1 x.2.1),zL (f8s x f) (doL f.1 f.2.1 f.2.2.1 f.2.2.2 x.2.2))
def c1e(l:List Fd)(b:Int):Fd:=l.getD (b.tmod l.length).toNat fdR.d
def b9i:List Int→Sta→List Fd
 | [],_=>[]
 |b::bs,s=>if¬b1j s.1 s.2.1 s.2.2=0∨d5p s=[]then []else if¬f8s s (c1e (d5p s) b)=0 then []else c1e (d5p s) b::b9i bs (c5h s (c1e (d5p s) b))
def c17(s:Sta):Prop:=b5n s.1 s.2.1∧b2b s.2.2
def f4e(l:List Fd):Prop:=∀f∈l,0≤f.2.2.1
theorem fdL_ok(l:List (Int×Int)):f4e (fdL l):=by
 intro f hf
 obtain⟨x,_,hx⟩:=Mf.1 hf
 simp only[fd4,J8,List.not_mem_nil,or_false]at hx
 rcases hx with rfl|rfl|rfl|rfl<;>simp
theorem d82(s:Sta):f4e (d5p s):=by
 unfold d5p zL
 split
 ·exact fdL_ok _
 ·intro f hf;cases hf
theorem d2i{l:List Fd}(h:f4e l)(b:Int):0≤(c1e l b).2.2.1:=by
 unfold c1e
 rw[It]
 cases hg:l[(b.tmod l.length).toNat]? with
 |none=>simp[fdR]
 |some f=>exact h f (J0 hg)
theorem c6f{s:Sta}(h:c17 s){f:Fd}(h0:0≤f.2.2.1):c17 (c5h s f):=do_res h.1 h.2 h0
theorem c5a(w h:Int):c17 (f61 w h):=by
 unfold f61 c17
 refine⟨⟨⟨?_,?_⟩,by show (0:Int)≤0;omega,by show (0:Int)≤255;omega⟩,?_⟩
 ·unfold flP;split<;>simp
 ·unfold flP;split<;>(intro c hc;cases hc)
 ·unfold flL
  split
  ·rename_i hE
   by_cases hs:b0e (shW w) (shW h)=0
   ·have hb:b0w ⟨shW w,shW h,[]⟩ r0=0:=by unfold flE at hE;rwa[if_pos hs]at hE
    refine j3u (d9f hs hb) ?_
    have P:=b6u (p:=⟨shW w,shW h,[]⟩) (r:=r0) Dy hb
    have hN:=b1b hs
    have t5:(b01 ⟨shW w,shW h,[]⟩ r0).length=nOf (shW w) (shW h):=P.il
    have:∀(l:List Cl) (k:Nat),(b0j (l.mapIdx fun i c=>(⟨c,[((i+k:Nat):Int)]⟩:Stk))).length=l.length:=by
     intro l
     induction l with
     |nil=>intro k;rfl
     |cons c l ih=>
      intro k
      rw[List.mapIdx_cons,d0h]
      have:=ih (k+1)
      simp only[K3,Lw]at this⊢
      rw[show (fun(i:Nat) (c:Cl)=>(⟨c,[((i+1+k:Nat):Int)]⟩:Stk))=fun i c=>⟨c,[((i+(k+1):Nat):Int)]⟩from by funext i c;rw[show i+1+k=i+(k+1)from Dt],this]
      omega
    have:=this (b01 ⟨shW w,shW h,[]⟩ r0) 0
    unfold flS
    simp only[Kz]at this
    omega
   ·unfold flE at hE;rw[if_neg hs]at hE;exact absurd hE hs
  ·refine⟨⟨Dv,fun c hc=>Ff⟩,fun c hc=>Ff,En⟩
theorem d0q:∀(bs:List Int) (s:Sta),f4e (b9i bs s)∧(b9i bs s).length≤bs.length
 | [],_=>⟨fun f hf=>(by cases hf),J2 _⟩
 |b::bs,s=>by
  unfold b9i
  split
  ·exact⟨fun f hf=>(by cases hf),Dv⟩
  ·split
   ·exact⟨fun f hf=>(by cases hf),Dv⟩
   ·have ih:=d0q bs (c5h s (c1e (d5p s) b))
    refine⟨fun f hf=> ?_,Hd⟩
    rcases J8.1 hf with rfl|hf
    ·exact d2i (d82 s) b
    ·exact ih.1 f hf
abbrev g0e:FuncId:=17
def b2a(w h:Int)(l:List Int):List Fd:=b9i (l.take 6) (f61 w h)
def d4u:Kon
 | [x]=>(asF x).map fun q=>(q.1,.sl 4 (b2a q.2.1 q.2.2.1 q.2.2.2).length (fdR.row (b2a q.2.1 q.2.2.1 q.2.2.2)) none)
 |_=>none
def FFProg:Fam:=⟨Int×Int×List Int,fun(w,h,l)=>[.agg (fSV w h l)],fun(w,h,l)=>fOK w h l,fun(w,h,l)=>.sl 4 (b2a w h l).length (fdR.row (b2a w h l)) none⟩
def IFProg:Int×Int×List Int→Nat→Option Inv
 |(w,h,l),4=>some {β:=Nat×Sta×List Fd,ok:=fun(i,s,o)=>i≤l.length∧i≤6∧c17 s∧o.length=i∧o++b9i ((l.take 6).drop i) s=b2a w h l,st:=fun(i,s,o)=>⟨[⟨6,none,.int .i64 i⟩,⟨4,none,.own 1 0⟩,⟨3,none,.osl 2⟩,⟨1,none,.own 0 0⟩],[.cells 43 (fSV w h l),.cells 31 (stC s.1 s.2.1 s.2.2),.row 106 4 o.length (fdR.row o) none]⟩,μ:=fun(i,_,_)=>6-i,nl:=[.slot 3 106 4]}
 |_,_=>none
theorem g87:PS g0e d4u:=by
 refine con [(d7i,c5c),(c56,c2e),(g8u,f0w),(nDo,kDo)] (by simpa using⟨f85,c9z,pFolds,pDo⟩) FFProg IFProg d4u ?_ ?_ Go.Proofs.Tryz.func17 Du Du Du ?_
 ·intro args pre s h hp
  unfold d4u at h
  split at h
  ·rename_i x
   simp only[Ia]at h
   obtain⟨⟨q,w,hh,l⟩,hx,rfl,rfl⟩:=h
   obtain⟨h1,h2⟩:=f9a hx hp
   exact Cx
  ·cases h
 ·exact Bu
 ·rintro⟨w,h,l⟩ ⟨h1,h2,h3⟩
  try dsimp only at h1 h2 h3
  have fu:=c5a w h
  refine wlk _ ?_;(repeat' first|constructor|refine Iu fun hu=> ?_|intro h);all_goals refine Lm ?_
  all_goals(try exact⟨u8R.isL_row l,h1,h2,by rw[RT.lst_row];exact h3⟩)
  all_goals
   refine⟨((0:Nat),f61 w h,([]:List Fd)),⟨J5 _,J5 _,fu,rfl,rfl⟩,?_,?_⟩
   ·refine wlk _ ?_;(repeat' first|constructor|refine Iu fun hu=> ?_|intro h);all_goals refine Lm ?_
    all_goals first|exact A2|exact Ag|skip
   ·rintro⟨i,s,o⟩ ⟨i1,i2,i3,i4,i5⟩
    try dsimp only at i1 i2 i3 i4 i5
    obtain⟨p,r,L⟩:=s
    have bw:=b2r i3.1 i3.2
    have hb:i<l.length→0≤l.getD i u8R.d∧l.getD i u8R.d≤255:=fun h=>h3 _ (b0c h)
    have hd:(i:Int)<l.length∧(i:Int)<6→(l.take 6).drop i=l.getD i u8R.d::(l.take 6).drop (i+1):=fun hh=>by
     have q1:i<(l.take 6).length:=H7
     rw[List.drop_eq_getElem_cons q1,List.getElem_take,It,Iv (show i<l.length from Dt)]
     rfl
    have hF:d5p (p,r,L)=zL (b1j p r L) (fdL (lnL p r)):=rfl
    have s1:(i:Int)<l.length∧(i:Int)<6→¬b1j p r L=0∨(((zL (b1j p r L) (fdL (lnL p r))).length:Nat):Int)=0→o=b2a w h l:=fun q1 q2=>by
     rw[hd q1]at i5
     unfold b9i at i5
     rw[Iw (q2.imp id fun e=>Kd (by rw[hF];omega)),List.append_nil]at i5
     exact i5
    have sn:b1j p r L=0∧¬(((zL (b1j p r L) (fdL (lnL p r))).length:Nat):Int)=0→¬(¬b1j p r L=0∨d5p (p,r,L)=[]):=fun q hh=>by
     rcases hh with hh|hh
     ·exact hh q.1
     ·rw[hF]at hh;rw[hh]at q;exact q.2 rfl
    have s2:(i:Int)<l.length∧(i:Int)<6→(b1j p r L=0∧¬(((zL (b1j p r L) (fdL (lnL p r))).length:Nat):Int)=0)→¬f8s (p,r,L) (c1e (d5p (p,r,L)) (l.getD i u8R.d))=0→o=b2a w h l:=fun q1 q2 q3=>by
     rw[hd q1]at i5
     unfold b9i at i5
     rw[Iy (sn q2),Iw q3,List.append_nil]at i5
     exact i5
    have s3:(i:Int)<l.length∧(i:Int)<6→(b1j p r L=0∧¬(((zL (b1j p r L) (fdL (lnL p r))).length:Nat):Int)=0)→f8s (p,r,L) (c1e (d5p (p,r,L)) (l.getD i u8R.d))=0→(o++[c1e (d5p (p,r,L)) (l.getD i u8R.d)])++b9i ((l.take 6).drop (i+1)) (c5h (p,r,L) (c1e (d5p (p,r,L)) (l.getD i u8R.d)))=b2a w h l:=fun q1 q2 q3=>by
     rw[hd q1]at i5
     unfold b9i at i5
     rw[Iy (sn q2),Iy (fun hh=>hh q3)]at i5
     rw[Li]
     exact i5
    have s4:¬(i:Int)<l.length∨¬(i:Int)<6→o=b2a w h l:=fun q=>by
     rw[List.drop_eq_nil_of_le H7]at i5
     simpa[b9i]using i5
    have zw:=fun b=>d2i (d82 (p,r,L)) b
    refine wlk _ ?_;(repeat' first|constructor|refine Iu fun hu=> ?_|intro h);all_goals refine Lm ?_
    all_goals(try simp only[I8,b00,RT.lst_row,b0f,b0s,I9,If,Jy,Ka]at*)
    all_goals(try first
     |exact B6
     |exact bw
     |exact⟨bw,zw _⟩
     |(rw[s1 Dx Dx];done)
     |(rw[s1 Dx Dx];exact fun _ _=>rfl)
     |(rw[s4 Dx];done)
     |(rw[s4 Dx];exact fun _ _=>rfl)
     |(rw[s2 Dx Dx Dx];done)
     |(rw[s2 Dx Dx Dx];exact fun _ _=>rfl)
     |omega
     |exact Au
     |(have q:=hb Dt;simp only[inK];omega)
     |(have q:=hb Dt;exact⟨Int.tmod_nonneg _ q.1,Int.tmod_lt_of_pos _ Dt⟩)
     |exact Aa)
    all_goals(try
     refine⟨(i+1,c5h (p,r,L) (c1e (d5p (p,r,L)) (l.getD i u8R.d)),o++[c1e (d5p (p,r,L)) (l.getD i u8R.d)]),⟨Hg,by show i+1≤6;omega,c6f i3 (zw _),by simp only[Ig];omega,s3 Dx Dx Dx⟩,by show 6-(i+1)<6-i;omega,?_⟩
     simp only[Ig])
    ·refine wlk _ ?_;(repeat' first|constructor|refine Iu fun hu=> ?_|intro h);all_goals refine Lm ?_
     all_goals first|exact Aj|exact b43 (R:=fdR) rfl|skip
def fOf(w h:Int)(l:List Int):Sta:=(b2a w h l).foldl c5h (f61 w h)
theorem f21:∀(l:List Fd) (s:Sta),f4e l→c17 s→c17 (l.foldl c5h s)
 | [],_,_,h=>h
 |f::l,s,hl,h=>f21 l (c5h s f) (fun g hg=>hl g (Ju _ hg)) (c6f h (hl f (Kp ..)))
theorem g0j(w h:Int)(l:List Int):c17 (fOf w h l):=f21 _ _ (d0q _ _).1 (c5a w h)
abbrev nFOf:FuncId:=13
def kFOf:Kon
 | [x]=>(asF x).map fun q=>(q.1,.agg (stC (fOf q.2.1 q.2.2.1 q.2.2.2).1 (fOf q.2.1 q.2.2.1 q.2.2.2).2.1 (fOf q.2.1 q.2.2.1 q.2.2.2).2.2))
 |_=>none
def FFOf:Fam:=⟨Int×Int×List Int,fun(w,h,l)=>[.agg (fSV w h l)],fun(w,h,l)=>fOK w h l,fun(w,h,l)=>.agg (stC (fOf w h l).1 (fOf w h l).2.1 (fOf w h l).2.2)⟩
def IFOf:Int×Int×List Int→Nat→Option Inv
 |(w,h,l),4=>some {β:=Nat×Sta,ok:=fun(i,s)=>i≤(b2a w h l).length∧c17 s∧((b2a w h l).drop i).foldl c5h s=fOf w h l,st:=fun(i,s)=>⟨[⟨6,none,.int .i64 i⟩,⟨5,none,.sl 4 (b2a w h l).length (fdR.row (b2a w h l)) none⟩,⟨3,none,.own 2 0⟩,⟨2,none,.own 1 0⟩],[.cells 43 (fSV w h l),.cells 31 [.int .i64 0,.int .i64 0,.con (.slice none 0 0),.int .u8 0,.int .i64 0,.int .i64 0,.con (.slice none 0 0)],.cells 31 (stC s.1 s.2.1 s.2.2)]⟩,μ:=fun(i,_)=>(b2a w h l).length-i}
 |_,_=>none
theorem pFOf:PS nFOf kFOf:=by
 refine con [(d7i,c5c),(c56,c2e),(g0e,d4u),(nDo,kDo)] (by simpa using⟨f85,c9z,g87,pDo⟩) FFOf IFOf kFOf ?_ ?_ Go.Proofs.Tryz.func13 Du Du Du ?_
 ·intro args pre s h hp
  unfold kFOf at h
  split at h
  ·rename_i x
   simp only[Ia]at h
   obtain⟨⟨q,w,hh,l⟩,hx,rfl,rfl⟩:=h
   obtain⟨h1,h2⟩:=f9a hx hp
   exact Cx
  ·cases h
 ·exact Bu
 ·rintro⟨w,v,l⟩ ⟨h1,h2,h3⟩
  try dsimp only at h1 h2 h3
  have fu:=c5a w v
  have P9:=(d0q (l.take 6) (f61 w v))
  have b8:(b2a w v l).length≤6:=by
   have:=P9.2
   rw[List.length_take]at this
   unfold b2a
   omega
  have hfo:f4e (b2a w v l):=P9.1
  refine wlk _ ?_;(repeat' first|constructor|refine Iu fun hu=> ?_|intro h);all_goals refine Lm ?_
  all_goals(try exact⟨u8R.isL_row l,h1,h2,by rw[RT.lst_row];exact h3⟩)
  all_goals(try simp only[RT.lst_row])
  all_goals
   refine⟨((0:Nat),f61 w v),⟨J5 _,fu,rfl⟩,?_,?_⟩
   ·refine wlk _ ?_;(repeat' first|constructor|refine Iu fun hu=> ?_|intro h);all_goals refine Lm ?_
    all_goals(try simp only[])
    all_goals first|exact A2|skip
   ·rintro⟨i,s⟩ ⟨i1,i3,i5⟩
    try dsimp only at i1 i3 i5
    obtain⟨p,r,L⟩:=s
    have bw:=b2r i3.1 i3.2
    have hd:(i:Int)<(b2a w v l).length→(b2a w v l).drop i=(b2a w v l).getD i fdR.d::(b2a w v l).drop (i+1):=fun hh=>by
     have q1:i<(b2a w v l).length:=Dt
     rw[List.drop_eq_getElem_cons q1,It,Iv q1]
     rfl
    have Qv:(i:Int)<(b2a w v l).length→0≤((b2a w v l).getD i fdR.d).2.2.1:=fun hh=>hfo _ (b0c Dt)
    have s3:(i:Int)<(b2a w v l).length→((b2a w v l).drop (i+1)).foldl c5h (c5h (p,r,L) ((b2a w v l).getD i fdR.d))=fOf w v l:=fun q1=>by
     rw[hd q1]at i5
     exact i5
    have s4:¬(i:Int)<(b2a w v l).length→(p,r,L)=fOf w v l:=fun q=>by
     rw[List.drop_eq_nil_of_le Dt]at i5
     exact i5
    refine wlk _ ?_;(repeat' first|constructor|refine Iu fun hu=> ?_|intro h);all_goals refine Lm ?_
    all_goals(try simp only[I8,b00,RT.lst_row,b0f,b0s]at*)
    all_goals(try first
     |exact B6
     |exact bw
     |exact⟨bw,Qv Dx⟩
     |omega
     |exact Au
     |(rw[←s4 Dx];done)
     |(rw[←s4 Dx];exact fun _ _=>rfl)
     |exact A4)
    ·refine⟨(i+1,c5h (p,r,L) ((b2a w v l).getD i fdR.d)),⟨by show i+1≤(b2a w v l).length;omega,c6f i3 (Qv Dx),s3 Dx⟩,by show (b2a w v l).length-(i+1)<(b2a w v l).length-i;omega,?_⟩
     refine wlk _ ?_;(repeat' first|constructor|refine Iu fun hu=> ?_|intro h);all_goals refine Lm ?_
     all_goals first|exact Aj|skip
end Go.Proofs.YtdblhepcmjecgaaGreatDoor.V
