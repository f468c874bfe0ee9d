/-
  Parts of the proof: N4 N5 L16 R3d. Conditions: none.
-/
import Derived.Test.YtdblhepcmjecgaaGreatDoorGdc25
import Derived.Test.YtdblhepcmjecgaaGreatDoorGdc24
import Derived.Test.YtdblhepcmjecgaaGreatDoorGdc5
import Derived.Test.YtdblhepcmjecgaaGreatDoorGdc10
import Derived.Test.YtdblhepcmjecgaaGreatDoorGdc16
set_option maxRecDepth 100000
set_option maxHeartbeats 40000000
namespace Go.Proofs.YtdblhepcmjecgaaGreatDoor.V
open Go
def chkS(s:Sta):Int:=b1j s.1 s.2.1 s.2.2
theorem do_val{x:Sta}{f:Fd}(h:f8s x f=0):chkS (c5h x f)=0:=by
 have e:c5h x f=(doP f.1 f.2.1 f.2.2.2 x.1 x.2.1,doR f.1 f.2.1 f.2.2.1 x.1 x.2.1,doL f.1 f.2.1 f.2.2.1 f.2.2.2 x.2.2):=by
  unfold c5h zP zR zL
  simp[h]
 rw[e]
 show b1j (doP f.1 f.2.1 f.2.2.2 x.1 x.2.1) (doR f.1 f.2.1 f.2.2.1 x.1 x.2.1) (doL f.1 f.2.1 f.2.2.1 f.2.2.2 x.2.2)=0
 apply Classical.byContradiction
 intro g
 unfold f8s doE at h
 repeat'(split at h)
 all_goals first|exact B6|omega
theorem d91:∀(bs:List Int) (s:Sta),chkS s=0→chkS ((b9i bs s).foldl c5h s)=0
 | [],s,h=>h
 |b::bs,s,h=>by
  unfold b9i
  split
  ·exact h
  ·split
   ·exact h
   ·rename_i _ hd
    exact d91 bs (c5h s (c1e (d5p s) b)) (do_val (Classical.not_not.1 hd))
def flB(a:Int):Bool:=(List.range 4).all fun b=>decide (b1j (flP a (b+1)) r0 (flL a (b+1))=0)
theorem fl_v1:flB 1=true:=Du
theorem fl_v2:flB 2=true:=Du
theorem fl_v3:flB 3=true:=Du
theorem fl_v4:flB 4=true:=Du
theorem g3b(w v:Int):chkS (f61 w v)=0:=by
 have hw:shW w=1∨shW w=2∨shW w=3∨shW w=4:=Gm
 have hv:∃a:Nat,a<4∧shW v=(a:Int)+1:=⟨(v%4).toNat,Dt,Gm⟩
 obtain⟨b,hb,eb⟩:=hv
 have hB:flB (shW w)=true:=by
  rcases hw with e|e|e|e<;>rw[e]
  ·exact fl_v1
  ·exact fl_v2
  ·exact fl_v3
  ·exact fl_v4
 show b1j (flP (shW w) (shW v)) r0 (flL (shW w) (shW v))=0
 rw[eb]
 have:=J4.1 hB b (K1.2 hb)
 simpa using this
theorem f8u(w v:Int)(l:List Int):chkS (fOf w v l)=0:=d91 _ _ (g3b w v)
section
variable {p : Pt} {r : Mv} {L : List Stk}
theorem d02{l:List Int}{v:Int}(h:0≤b4g l v):l.getD (b4g l v).toNat 0=v:=by
 unfold b4g at h⊢
 split at h
 ·rename_i i hi
  obtain⟨b7,hv,_⟩:=K0.1 hi
  rw[It,J7,Iv b7]
  simpa using hv
 ·omega
theorem g6h{l:List Int}{v:Int}(h:v∈l):0≤b4g l v:=by
 unfold b4g
 split
 ·omega
 ·rename_i hn
  have:=Kh.1 hn v h
  simp at this
theorem g9n(S:SkOK p r L){v:Int}(h0:0≤v)(h1:v<4*p.W*p.H):∃s∈L,f42 L v=some (s.c,b4g s.l v)∧0≤b4g s.l v∧s.c=(b01 p r).getD v.toNat clR.d:=by
 obtain⟨s0,bv,Pn⟩:=Mf.1 (S.all v h0 h1)
 cases hf:L.find? (fun s=>decide (0≤b4g s.l v))with
 |none=>
  have:=List.find?_eq_none.1 hf s0 bv
  exact absurd (g6h Pn) (by simpa using this)
 |some s=>
  have h2:=List.find?_some hf
  simp only[Jz]at h2
  have h3:=List.mem_of_find?_eq_some hf
  refine⟨s,h3,by unfold f42;rw[hf];rfl,h2,?_⟩
  have hg:=d02 h2
  have h9:=c5i s.l v
  have hm:v∈s.l:=by
   rw[←hg]
   exact b0c Dt
  exact(S.im s h3 v hm).symm
theorem stk_eq(S:SkOK p r L){s t:Stk}(hs:s∈L)(ht:t∈L)(h:s.c=t.c):s=t:=by
 obtain⟨i,hi,rfl⟩:=b2v (d:=stR.d) hs
 obtain⟨j,hj,rfl⟩:=b2v (d:=stR.d) ht
 rcases Lx i j with k|k|k
 ·have:=S.lt i j k hj
  rw[h,b4x]at this
  omega
 ·rw[k]
 ·have:=S.lt j i k hi
  rw[h,b4x]at this
  omega
theorem ndq_ne{q e:Int}(hq:0≤q∧q≤3)(he:0≤e∧e<3):q≠ndq q e:=by
 have h1:q=0∨q=1∨q=2∨q=3:=Dt
 have h2:e=0∨e=1∨e=2:=Dt
 rcases h1 with rfl|rfl|rfl|rfl<;>rcases h2 with rfl|rfl|rfl<;>decide
theorem f5q(S:SkOK p r L)(ja:b0m p=0)(he:∀c∈p.l,inK .u8 c.e){c:Cr}(hc:c∈p.l):∃s∈L,f42 L c.c=some (s.c,b4g s.l c.c)∧f42 L (b03 p.W p.H c.c c.e)=some (s.c,b4g s.l (b03 p.W p.H c.c c.e))∧0≤b4g s.l c.c∧0≤b4g s.l (b03 p.W p.H c.c c.e)∧b4g s.l c.c≠b4g s.l (b03 p.W p.H c.c c.e):=by
 obtain⟨h1,h2,hn⟩:=j4i ja he c hc
 have hN:=b1b S.hs
 have hb:c.c<4*p.W*p.H:=Dt
 obtain⟨⟨n0,n1⟩,n2⟩:=b56 S.hs h1.1 hb h2 hn
 have hx:=Ji.1 (b0r ja).2.2.1 c hc
 have f7:b15 p.W p.H c.c c.e=c.c∧b1v p.W p.H c.c c.e=c.e:=by
  simp only[b65,Jy,I9,Ie,not_or,Ly]at hx
  simpa using hx.2
 have hk:kdV p c.c c.e≠0:=(d9z ja hn).1 (Jc.2 ⟨c,hc,by simp[f7m,b9h,f7]⟩)
 have ec:((c.c.toNat:Nat):Int)=c.c:=Kw h1.1
 have hl:=(S.P.loop c.c.toNat c.e Dt h2 (by rw[ec];exact hn) (by rw[ec];exact hk)).1
 rw[ec]at hl
 obtain⟨s,hs,f1,g1,c1⟩:=g9n S h1.1 hb
 obtain⟨t,ht,f2,g2,c2⟩:=g9n S n0 n1
 have e:=stk_eq S hs ht (by rw[c1,c2,hl])
 subst e
 refine⟨s,hs,f1,f2,g1,g2,fun q=> ?_⟩
 have a:=d02 g1
 rw[q,d02 g2]at a
 have Qf:=b3y S.hs h1.1 hb
 have b:=Lc Cl.q n2
 rw[a]at b
 have hq:(0≤(b02 p.W p.H c.c).q∧(b02 p.W p.H c.c).q≤3):=Qf.2.2.1
 revert b
 simp only[bey]
 exact ndq_ne hq h2
theorem d9m:∀{L:List Stk} {s:Stk},s∈L→s.l.length≤(b0j L).length
 |t::L,s,h=>by
  rw[d0h]
  rcases J8.1 h with rfl|h
  ·omega
  ·have:=d9m h
   omega
theorem g58(S:SkOK p r L){s:Stk}(hs:s∈L)(v:Int):b4g s.l v<1024:=by
 have h:=f5y S
 have h2:=c5i s.l v
 have h3:=d9m hs
 omega
theorem j2d(S:SkOK p r L)(ja:b0m p=0)(he:∀c∈p.l,inK .u8 c.e){c:Cr}(hc:c∈p.l):0≤gcB p L c∧gcB p L c≤1024:=by
 obtain⟨s,hs,f1,f2,g1,g2,bb⟩:=f5q S ja he hc
 have b1:=g58 S hs c.c
 have b2:=g58 S hs (b03 p.W p.H c.c c.e)
 unfold gcB d61
 rw[f1,f2]
 simp only[Ik]
 omega
end
def htN(L:List Stk)(i:Nat):Int:=(L.take i).foldl (fun(n:Int) s=>max n s.l.length) 0
theorem f2h{L:List Stk}{i:Nat}(h:i<L.length):htN L (i+1)=max (htN L i) (L.getD i stR.d).l.length:=by
 unfold htN
 rw[Kn,Iv h,List.foldl_append]
 simp[h]
theorem j3q(L:List Stk):htN L L.length=L.foldl (fun(n:Int) s=>max n s.l.length) 0:=by
 unfold htN
 rw[Ki (J2 _)]
theorem g7f{L:List Stk}(h:b2y L):∀i,i≤L.length→0≤htN L i∧htN L i≤100000
 |0,_=>by simp[htN]
 |i+1,hi=>by
  have a:=g7f h i Dt
  have b:=b45 h i
  rw[f2h Dt]
  omega
abbrev GNi:=(Int×Int×List Int)×(Int×Int)×Int
def FGN:Fam:=⟨GNi,fun((w,v,l),(a,b),n)=>[.agg (fSV w v l),.agg [.int .u16 a,.int .u16 b],.int .i64 n],fun((w,v,l),(a,b),n)=>fOK w v l∧(inK .u16 a∧inK .u16 b)∧inK .i64 n,fun _=>.bool true⟩
abbrev tG(a:Int):Int:=1+a.tmod 1000
abbrev sG(b:Int):Int:=1+b.tmod 10000
def gnOwn(w v:Int)(l:List Int)(a b:Int)(S:Sta):List Blk:=[.cells 43 (fSV w v l),.cells 63 [.int .u16 a,.int .u16 b],.cells 65 [.int .i64 (tG a),.int .i64 (sG b)],.cells 31 (stC S.1 S.2.1 S.2.2)]
def gnEnt(a n:Int)(S:Sta):List Entry:=[⟨14,none,.int .i64 (ndA S.1 S.2.2 (tG a))⟩,⟨13,none,.int .i64 (ndW S.1 S.2.2 (tG a))⟩,⟨11,none,.int .i64 (htN S.2.2 S.2.2.length*tG a)⟩,⟨9,none,.sl 2 S.1.l.length (gcR.row (gcL S.1 S.2.2)) none⟩,⟨8,none,.own 3 0⟩,⟨7,none,.own 2 0⟩,⟨2,none,.int .i64 n⟩]
def IGN:GNi→Nat→Option Inv
 |((w,v,l),(a,b),n),10=>some {β:=Nat×Sta,ok:=fun(i,S)=>i≤S.2.2.length∧S=fOf w v l,st:=fun(i,S)=>⟨⟨17,none,.int .i64 i⟩::⟨16,none,.int .i64 (htN S.2.2 i)⟩::gnEnt a n S,gnOwn w v l a b S⟩,μ:=fun(i,S)=>S.2.2.length-i}
 |((w,v,l),(a,b),n),15=>some {β:=Nat×Sta,ok:=fun(i,S)=>i≤S.1.l.length∧S=fOf w v l,st:=fun(i,S)=>⟨⟨20,none,.int .i64 i⟩::⟨19,none,.int .i64 (g8v i (ndL S.1 S.2.2 (tG a)))⟩::⟨18,none,.int .i64 (c86 0 i (ndL S.1 S.2.2 (tG a)))⟩::⟨16,none,.int .i64 (htN S.2.2 S.2.2.length)⟩::gnEnt a n S,gnOwn w v l a b S⟩,μ:=fun(i,S)=>S.1.l.length-i}
 |_,_=>none
abbrev nGN:FuncId:=5
theorem pGN_of(zq:PS b5w b48):PS nGN (f5c FGN):=by
 refine con [(b5w,b48),(nFOf,kFOf),(nGCr,g7n),(c48,b8v),(d58,c6q),(g1r,d4r),(j4x,f80)] (by simpa using⟨zq,pFOf,pGCr,d2k,d9s,g9s,pFits⟩) FGN IGN (f5c FGN) ?_ ?_ Go.Proofs.Tryz.func5 Du Du Du ?_
 ·exact d7x FGN (fun _=>rfl) (fun i=>by simp[FGN,fSV,b2h,SV.le2,SV.le1,b24,SV.le0,b3q,d0g])
 ·exact Bw
 ·rintro⟨⟨w,v,l⟩,⟨a,b⟩,n⟩ ⟨⟨i1,i2,i3⟩,⟨i4,i5⟩,i6⟩
  try dsimp only at i1 i2 i3 i4 i5 i6
  have b6:=g0j w v l
  have cd:u8R.isL l.length (u8R.row l)∧(0≤w∧w≤255)∧(0≤v∧v≤255)∧∀b∈l,0≤b∧b≤255:=⟨u8R.isL_row l,i1,i2,i3⟩
  have bw:=b2r b6.1 b6.2
  have hv:=f8u w v l
  have hA:a.tmod 1000=a%1000:=L5 (by simp only[inK]at i4;omega)
  have hB:b.tmod 10000=b%10000:=L5 (by simp only[inK]at i5;omega)
  have ht:b4k (tG a) (sG b)=0:=by unfold b4k tG sG;rw[if_pos Dt]
  generalize hS:fOf w v l=S at bw hv b6
  obtain⟨p,r,L⟩:=S
  dsimp only at bw
  replace hv:b1j p r L=0:=hv
  have hX:ndX p r L (tG a) (sG b)=0:=by unfold ndX;rw[if_pos hv,ht]
  have hG:ghX p r L (tG a) (sG b)=0:=hX
  have k0:∀x,keep (ndX p r L (tG a) (sG b)) x=x:=fun x=>by unfold keep;rw[if_pos hX]
  have hH:ghV p r L (tG a) (sG b)=htN L L.length*tG a:=by unfold ghV;rw[if_pos hG,j3q]
  have hZ:zL (b1j p r L) (gcL p L)=gcL p L:=Iw hv
  have fb:=b70 p L
  have hLn:L.length≤100000:=b6.2.1.1
  have hpn:p.l.length≤100000:=b6.1.1.1
  have dz:=f3x (c2g hv) b6.1.2.1 b6.2.2.1
  have ja:b0m p=0:=(b54 (c0s (c2g hv)).1).1
  have Na:=b4v ht
  have fk:=fun i (h:i<p.l.length)=>g26 (L:=L) (t:=tG a) b6.2.1 Na.1 Na.2.1 h
  have fq:=d69 p L (tG a)
  have hF:ftX p r L (tG a) (sG b) n=d8p n 0 4:=Iw hX
  have Qw:¬ftX p r L (tG a) (sG b) n=0→ftV p r L (tG a) (sG b) n=false:=fun h=>Iy h
  have hV1:ftX p r L (tG a) (sG b) n=0→ftV p r L (tG a) (sG b) n=decide (10*ndW p L (tG a)≤n*sG b):=fun h=>Iw h
  have hm:=g7f b6.2.1 L.length (J2 _)
  have t7:0≤htN L L.length*tG a:=M3 hm.1 Dt
  have nh:htN L L.length*tG a≤100000*1000:=M2 hm.2 Na.2.1 Dt Dt
  have hw:=d05 fk p.l.length (J2 _)
  replace hw:0≤ndW p L (tG a)∧ndW p L (tG a)≤157081218:=hw
  have sw:0≤n→n≤1000000→0≤n*sG b∧n*sG b≤1000000*10000:=fun h1 h2=>⟨M3 h1 Dt,M2 h2 Na.2.2.2 Dt Dt⟩
  have pz:n<0→ftX p r L (tG a) (sG b) n=1:=fun h=>by rw[hF];exact Iw h
  have rh:¬n<0→1000000<n→ftX p r L (tG a) (sG b) n=3:=fun h k=>by rw[hF];unfold d8p;rw[if_neg h];exact if_pos k
  have hf3:¬n<0→¬1000000<n→ftX p r L (tG a) (sG b) n=0:=fun h k=>by rw[hF];unfold d8p;rw[if_neg h];exact if_neg k
  refine wlk _ ?_;(repeat' first|constructor|refine Iu fun hu=> ?_|intro h);all_goals refine Lm ?_
  all_goals(try simp only[hS,b00,RT.lst_row,b0f,b0s]at h)
  all_goals(try simp only[hS,b00,RT.lst_row,b0f,b0s])
  all_goals(try first
   |exact cd
   |exact bw
   |decide
   |(simp only[inK,hA]at*;omega)
   |(simp only[inK,hB]at*;omega)
   |(simp[hv,hX,hG]at h;done))
  all_goals
   refine⟨((0:Nat),(p,r,L)),⟨J5 _,by first|exact Bp⟩,?_,?_⟩
   ·refine wlk _ ?_;(repeat' first|constructor|refine Iu fun hu=> ?_|intro h);all_goals refine Lm ?_
    all_goals(try simp only[k0,hH,hZ,fb])
    all_goals first|exact A2|skip
   ·rintro⟨i,S⟩ ⟨hi,jx⟩
    try dsimp only at hi jx
    replace jx:S=(p,r,L):=by first|exact Bt
    subst jx
    replace hi:i≤L.length:=hi
    have ff:i<L.length→htN L (i+1)=max (htN L i) (L.getD i stR.d).l.length:=fun h=>f2h h
    refine wlk _ ?_;(repeat' first|constructor|refine Iu fun hu=> ?_|intro h);all_goals refine Lm ?_
    all_goals(try simp only[I8]at h)
    all_goals(try first
     |exact A9)
    ·refine⟨(i+1,(p,r,L)),⟨by show i+1≤L.length;omega,by first|exact Bp⟩,by show L.length-(i+1)<L.length-i;omega,?_⟩
     refine wlk _ ?_;(repeat' first|constructor|refine Iu fun hu=> ?_|intro h);all_goals refine Lm ?_
     all_goals first|exact A2|exact(ff Dt).symm|skip
    ·have ei:i=L.length:=Dt
     subst ei
     refine⟨((0:Nat),(p,r,L)),⟨J5 _,by first|exact Bp⟩,?_,?_⟩
     ·refine wlk _ ?_;(repeat' first|constructor|refine Iu fun hu=> ?_|intro h);all_goals refine Lm ?_
      all_goals first|exact A2|skip
     ·rintro⟨i,S⟩ ⟨hi,jx⟩
      try dsimp only at hi jx
      replace jx:S=(p,r,L):=by first|exact Bt
      subst jx
      replace hi:i≤p.l.length:=hi
      have hs:=d73 fk i hi
      have hR:i<p.l.length→0≤gcB p L (p.l.getD i d0)∧gcB p L (p.l.getD i d0)≤1024:=fun h=>j2d dz ja b6.1.1.2 (b0c h)
      have jf:i<p.l.length→((gcL p L).getD i gcR.d).2=gcB p L (p.l.getD i d0):=fun h=>by rw[c2v h]
      have Qx:i<p.l.length→f3s (tG a) (sG b) ((gcL p L).getD i gcR.d).2=0:=fun h=>by
       rw[jf h]
       unfold f3s
       rw[Iw ht]
       exact b4f.2 (hR h)
      have Qy:i<p.l.length→g27 (tG a) (sG b) ((gcL p L).getD i gcR.d).2=(ndL p L (tG a)).getD i b04.d:=fun h=>by
       unfold g27
       rw[Iw (Qx h),jf h,d6e h]
      refine wlk _ ?_;(repeat' first|constructor|refine Iu fun hu=> ?_|intro h);all_goals refine Lm ?_
      all_goals(try simp only[hS,J7,b00,RT.lst_row,b0f,b0s])
      all_goals(try simp only[Ie,I9]at*)
      all_goals(try first
       |exact bw
       |exact Au
       |exact absurd (Qx Dt) Dx
       |exact A4
       |(have:=fk i Dt;rw[Qy Dt];simp only[inK];omega)
       |exact Bm
       |(intro _;have:=sw Dt Dt;simp only[inK];omega)
       |(have e:=pz Dx;rw[Qw Fa,e];rfl)
       |(have e:=rh Dx Dx;rw[Qw Fa,e];rfl)
       |(have e:=hf3 Dx Dx;rw[hV1 e,e];simp;done))
      ·refine⟨(i+1,(p,r,L)),⟨Hh,by first|exact Bp⟩,Hi,?_⟩
       refine wlk _ ?_;(repeat' first|constructor|refine Iu fun hu=> ?_|intro h);all_goals refine Lm ?_
       all_goals first|exact A2|(rw[Qy Dt];rfl)|skip
      all_goals
       have ei:i=p.l.length:=Dt
       subst ei
       first
        |(simp[ndW,ndA]at h;done)
        |skip
theorem j4p{q:Int×Int×List Int}{p:Int×Int}{n:Int}(h:fOK q.1 q.2.1 q.2.2)(k:inK .u16 p.1∧inK .u16 p.2)(hn:inK .i64 n):FGN.pre (q,p,n):=⟨h,k,hn⟩
end Go.Proofs.YtdblhepcmjecgaaGreatDoor.V
namespace Go.Proofs.YtdblhepcmjecgaaGreatDoor.V
open Go Go.RowKit Go.ChangeShapes Go.WideShapes Go.ChangeAt
section
variable {H : Type} {enc : TypeId × Value → H} {w : World} {base : Nat} {sp : Nat → Bool} {held : Bool} {fuel : Nat} {cs : List Value} {x : DataW H × List MemPlace}
theorem j07(h:DataW.trod enc Go.Proofs.Tryz.prog w base sp held fuel 63 cs=some x):∃p:Int×Int,(inK .u16 p.1∧inK .u16 p.2)∧cs=[.int .u16 p.1,.int .u16 p.2]:=by
 obtain⟨xs,m,_,_,hl,mi,hx⟩:=DataW.trod_array Go.Proofs.Tryz.underlying63 h
 have hl:cs.length=2:=hl.trans Du
 match cs,hl with
 | [v0,v1],_=>
   have h0:=hx 0 Dt
   have h1:=hx 1 Dt
   rw[Iv Dt]at h0 h1
   replace h0:DataW.trod enc Go.Proofs.Tryz.prog w base sp held m 62 [v0]=some _:=h0
   replace h1:DataW.trod enc Go.Proofs.Tryz.prog w base sp held m 62 [v1]=some _:=h1
   obtain⟨a,ea,ha⟩:=c5u Go.Proofs.Tryz.underlying62 h0
   obtain⟨b,eb,hb⟩:=c5u Go.Proofs.Tryz.underlying62 h1
   cases ea;cases eb
   exact⟨(a,b),⟨ha,hb⟩,rfl⟩
theorem g35{v:Value}{d:DataW H}{ps:List MemPlace}(b6:Value.okWide Go.Proofs.Tryz.prog w .any base 63 v)(h:DataW.Trod enc Go.Proofs.Tryz.prog w 0 sp held 63 v d ps):∃p:Int×Int,(inK .u16 p.1∧inK .u16 p.2)∧D w (fun _=>False) b0a (.agg [.int .u16 p.1,.int .u16 p.2]) v:=by
 obtain⟨fuel,h⟩:=h
 obtain⟨p,hp,dx⟩:=j07 h
 unfold Value.okWide at b6
 rw[Go.Proofs.Tryz.underlying63]at b6
 obtain⟨ca,rfl,_,_⟩:=b6
 refine⟨p,hp,?_⟩
 have e:ca=[.int .u16 p.1,.int .u16 p.2].toArray:=by
  apply Array.ext'
  exact dx
 rw[e]
 refine .agg _ rfl (fun i s v hs hv=> ?_)
 match i,hs,hv with
 |0,hs,hv=>simp at hs hv;subst hs hv;exact .int
 |1,hs,hv=>simp at hs hv;subst hs hv;exact .int
end
end Go.Proofs.YtdblhepcmjecgaaGreatDoor.V
