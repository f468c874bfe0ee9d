/-
  Parts of the proof: Q3 C4 C5 C6 C7 Q4 A22 C8 A10 A11 A12a D1 A12 A13 D2 D3 A14 D4 A18 A19 A20 A21. Conditions: none.
-/
import Derived.Test.YtaihldljnlgnoaaGreatDoorSkc7
import Derived.Shelf.Lay
import Derived.Ground.SlsfProg
import Derived.Shelf.SortM.Plain
import Derived.Shelf.SortM.SortNone
import Derived.Ground.SlgmProg
set_option maxRecDepth 100000
set_option maxHeartbeats 40000000
namespace Go.Proofs
open Go Go.Lib Go.RowKit Go.Shelf Go.Sort
shelf_lay_g SlLaysF0.n6 Slsf 6 at Tryz 139 as Tryz.sortPass
shelf_lay_g SlLaysF0.n6 Slsf 6 at Tryz 141 as Tryz.sortLoop
shelf_lay_g SlLaysM.n5 Slgm 5 at Tryz 144 as Tryz.sortInts
end Go.Proofs
namespace Go.Proofs.YtaihldljnlgnoaaGreatDoor.V
open Go
section
open Go.Sort Go.Proofs Go.Shelf
def BB:List Int->List Int->Int
 | [],[]=>0
 | [],_::_=> -1
 |_::_,[]=>1
 |a::r,b::q=>if a=b then BB r q else CY a b
theorem JQ:∀l m:List Int,BB m l= -BB l m
 | [],[]=>rfl
 | [],_::_=>rfl
 |_::_,[]=>rfl
 |a::r,b::q=>by
  simp only[BB];by_cases h:a=b
  .rw[J7 h,J7 h.symm];exact JQ r q
  .rw[J8 h,J8 (λe=>h e.symm)];unfold CY;repeat' split<;>omega
theorem Pz:∀l m:List Int,BB l m=0->l=m
 | [],[],_=>rfl
 | [],_::_,h=>Fk
 |_::_,[],h=>Fk
 |a::r,b::q,h=>by
  simp only[BB]at h;by_cases e:a=b
  .rw[J7 e]at h;rw[e,Pz r q h]
  .rw[J8 e]at h;unfold CY at h;split at h<;>(try split at h)<;>omega
theorem VG(l:List Int):BB l l=0:=by have:=JQ l l;omega
theorem VZ:∀l m n:List Int,BB l m<0->BB m n<0->BB l n<0
 | [],[],n,h,_=>Fk
 | [],_::_,[],_,h=>Fk
 | [],_::_,_::_,_,_=>by simp[BB]
 |_::_,[],n,h,_=>Fk
 |_::_,_::_,[],_,h=>Fk
 |a::r,b::q,c::s,e,d=>by
  simp only[BB]at e d⊢;have k (x y:Int):CY x y<0->x<y:=by unfold CY;split<;>(try split)<;>omega
  have i (x y:Int) (h:x<y):CY x y<0:=by unfold CY;rw[if_pos h];omega
  by_cases g:a=b
  .subst g;rw[J7 rfl]at e;by_cases f:a=c
   .subst f;rw[J7 rfl]at d⊢;exact VZ r q s e d
   .rw[J8 f]at d⊢;exact d
  .rw[J8 g]at e;have:=k _ _ e;by_cases f:b=c
   .subst f;rw[J8 g];exact e
   .rw[J8 f]at d;have:=k _ _ d;rw[J8 Dx];exact i _ _ Dx
theorem d4y{α:Type}(key:α->List Int):SWO (ltOf λx y:α=>BB (key x) (key y))where
 irrefl x:=by simp[ltOf,VG]
 trans x y z h1 h2:=by simp only[ltOf,Jh]at*;exact VZ _ _ _ h1 h2
 ntrans x y z h1 h2:=by
  simp only[ltOf,Lc]at*;intro a;have n1:=JQ (key x) (key y);have n2:=JQ (key y) (key z);by_cases b:BB (key x) (key y)=0
  .rw[Pz _ _ b]at a;exact h2 a
  .exact h2 (VZ _ _ _ Dx a)
def VE{β:Type}(key:β->List Int)(x:β):List β->List β
 | []=>[x]
 |y::r=>if BB (key x) (key y)<=0 then x::y::r else y::VE key x r
def GR{β:Type}(key:β->List Int)(l:List β):List β:=l.foldr (VE key) []
theorem b6j{β:Type}(key:β->List Int)(x:β):∀l,(VE key x l).Perm (x::l)
 | []=>.refl _
 |y::r=>by
  simp only[VE];split
  .exact .refl _
  .exact((b6j key x r).cons y).trans (.swap x y r)
theorem Ss{β:Type}(key:β->List Int):∀l,(GR key l).Perm l
 | []=>.refl _
 |x::l=>(b6j key x _).trans ((Ss key l).cons x)
theorem RV{β:Type}(key:β->List Int)(l:List β):(GR key l).length=l.length:=(Ss key l).length_eq
theorem Qv{β:Type}(key:β->List Int)(l:List β)(x:β):x∈GR key l↔x∈l:=(Ss key l).mem_iff
theorem b8y{l m n:List Int}(h:BB l m<=0)(k:BB m n<=0):BB l n<=0:=by
 by_cases a:BB l m=0
 .rw[Pz _ _ a];exact k
 .by_cases b:BB m n=0
  .rw[<-Pz _ _ b];exact h
  .exact Int.le_of_lt (VZ l m n Dx Dx)
theorem b5z{β:Type}(key:β->List Int)(x:β):∀l,l.Pairwise (λa b=>BB (key a) (key b)<=0)->(VE key x l).Pairwise (λa b=>BB (key a) (key b)<=0)
 | [],_=>List.pairwise_singleton _ _
 |y::r,h=>by
  have d:=Kn.1 h;simp only[VE];split
  .rename_i e;exact Kn.2 ⟨λz c=>by
    rcases Ji.1 c with rfl|c
    .exact e
    .exact b8y e (d.1 z c),h⟩
  .rename_i e;refine Kn.2 ⟨λz c=> ?_,b5z key x r d.2⟩;rcases Ji.1 ((b6j key x r).mem_iff.1 c)with rfl|c
   .have:=JQ (key z) (key y);omega
   .exact d.1 z c
theorem b12{β:Type}(key:β->List Int):∀l,(GR key l).Pairwise (λa b=>BB (key a) (key b)<=0)
 | []=>List.Pairwise.nil
 |x::l=>b5z key x _ (b12 key l)
theorem b6x{β:Type}(key:β->List Int)(l:List β)(g:∀x∈l,∀y∈l,key x=key y->x=y):(l.mergeSort λx y=>decide (BB (key x) (key y)<=0))=GR key l:=by
 have d:=List.mergeSort_perm l (λx y=>decide (BB (key x) (key y)<=0));refine List.Perm.eq_of_pairwise (le:=λa b=>BB (key a) (key b)<=0) (λa b i j e f=> ?_) ?_ (b12 key l) (d.trans (Ss key l).symm)
 .have:=JQ (key a) (key b);exact g a (d.mem_iff.1 i) b ((Qv key l b).1 j) (Pz _ _ Dx)
 .have:=List.pairwise_mergeSort (le:=λx y=>decide (BB (key x) (key y)<=0)) (λa b c e f=>by simp only[Jh]at*;exact b8y e f) (λa b=>by have:=JQ (key a) (key b);simp only[Kd,Jh];omega) l;exact this.imp λh=>E4
theorem d5h{β:Type}{key:β->List Int}{l:List β}(h:(l.map key).Nodup):∀x∈l,∀y∈l,key x=key y->x=y:=by
 have a:=Kg.1 (L2.1 h);intro x hx y d e;obtain⟨i,b,rfl⟩:=K7.1 hx;obtain⟨j,c,rfl⟩:=K7.1 d;rcases N0 i j with h|h|h
 .exact absurd e (a i j b c h)
 .subst h;rfl
 .exact absurd e.symm (a j i c b h)
def svV:SV->Value
 |.int k n=>.int k n
 |_=>undef
section
variable{β:Type}{R:RT β}{w:World}{H:Nat->Prop}{μ:Mu}
theorem sv_D(b:∀x,∀s∈R.sv x,∃k n,s=.int k n){x:β}{i:Nat}{s:SV}{v:Value}(hs:(R.sv x)[i]?=some s)(a:((R.sv x).map svV)[i]?=some v):D w H μ s v:=by obtain⟨k,n,rfl⟩:=b x s (Jb hs);rw[Jz,hs]at a;cases a;exact .int
theorem sv_V(a:∀x,∀s∈R.sv x,∃k n,s=.int k n){x:β}{i:Nat}{s:SV}{v:Value}(hs:(R.sv x)[i]?=some s)(b:D w H μ s v):((R.sv x).map svV)[i]?=some v:=by obtain⟨k,n,rfl⟩:=a x s (Jb hs);cases b;rw[Jz,hs];rfl
end
def GN{β:Type}(R:RT β)(P:β->Prop)(x:{x:β // P x}):List Value:=(R.sv x.1).map svV
theorem g1p{β:Type}(R:RT β){ρ:Ren}{fs fc:FuncId}(L:SlLaysF0.n6 Tryz.prog ρ)(mn:ρ.f 6=fs)(hU:∃fn,Tryz.prog.funcs[fs]?=some fn/\(fn.name== "runtime.NumGoroutine")=false/\fn.body.isNone=false)
 (aE:∀w,(isAgg (ρ.t 24)).run Tryz.prog w=.ok true w) (zE:∀w,(Go.sizeOf (ρ.t 24)).run Tryz.prog w=.ok R.sz w) (hL:∀x,(R.sv x).length=R.sz) (hI:∀x,∀s∈R.sv x,∃k n,s=.int k n)
 (kc:AK) (pc:PS fc kc) (eg:∀args w,(callFunc fc args).run Tryz.prog w=.ok (.enter fc args) w) (e:KV)
 (he:∀T sz n g rest pre g' r,e T sz n g rest=some (pre,g',r)->sz=R.sz/\r=false/\∃caps key,rest=[.clo fc caps]/\(pre->R.is n g/\n<=100000/\
   (∀x∈R.lst n g,∀y∈R.lst n g,∃p:Prop,kc ([.agg (R.sv x),.agg (R.sv y)]++caps)=some (p,.int .i64 (BB (key x) (key y)))/\p)/\(∀x∈R.lst n g,∀y∈R.lst n g,key x=key y->x=y)/\g'=R.row (GR key (R.lst n g)))):ES fs e:=by
 refine⟨hU,?_⟩;intro A w v T sz n g c rest vals pre g' r hA hv cf hB hD s5 hp;obtain⟨rfl,rfl,caps,key,rfl,dg⟩:=he _ _ _ _ _ _ _ _ s5;obtain⟨pg,hn,ri,rj,rfl⟩:=dg hp;obtain⟨fv,rfl⟩:∃fv,vals=[fv]:=by
  have:=hD.1;match vals,this with
  | [fv],_=>exact⟨fv,rfl⟩
 have hf:=hD.2 0 _ fv rfl rfl;cases hf with
 |clo cvs fe qd=>
 obtain⟨a,m,rfl,fm,jd,ft,hl,be⟩:=hB;rcases Ks n with h0|h0
 .subst h0;have fu:=AnyF.slices_SortFunc_none {L with} a m (.func (.func fc) #[] cvs.toArray) w;rw[mn]at fu;refine fu.mono ?_;rintro e w' ⟨rfl,rfl⟩;refine⟨_,rfl,λh=>E9,λ_=>rfl,⟨a,m,rfl,fm,jd,ft,λi hi=>absurd hi Dx,?_⟩,Fr.refl _ _ _⟩;rcases be with h|⟨b,o,vs,cm,rfl,hh,ho,h1,hd⟩
  .exact .inl h
  .exact Cy
 .rcases be with h|⟨b,o,vs,cm,rfl,hh,ho,h1,hd⟩
  .omega
  have hb:b<w.heap.size:=(Kk.1 hh).1;have ba:(R.lst n g).length=n:=RT.lst_length R n g;have dw:∀i,i<n->(R.lst n g)[i]?=some (R.of (g i)):=λi hi=>by simp[RT.lst,hi]
  haveI:Inhabited {x:β // x∈R.lst n g}:=⟨⟨R.of (g 0),Jb (dw 0 h0)⟩⟩
  let d:Array {x:β // x∈R.lst n g}:=(R.lst n g).attach.toArray
  have Q6:d.size=n:=by simp only[d,List.size_toArray,List.length_attach];exact ba
  have Zm:∀i,i<n->(d[i]!).1=R.of (g i):=λi hi=>by rw[Lr d i Dx];simp only[d,List.getElem_toArray,List.getElem_attach];simp[RT.lst]
  have bg:∀i j,i<n->j<R.sz->o+i*R.sz+j<vs.length:=λi j hi hj=>by have:=LZ hi hj;have:n*R.sz<=m*R.sz:=Km _ fm;omega
  have hk:∀x,(GN R (λx=>x∈R.lst n g) x).length=R.sz:=λx=>by simp[GN,hL]
  have dj:∀i j,i<n->j<R.sz->vs[o+i*R.sz+j]?=some ((GN R (λx=>x∈R.lst n g) d[i]!)[j]!):=by
   intro i j hi hj;have b6:=bg i j hi hj;have bn:j<(R.sv (R.of (g i))).length:=by rw[hL];exact hj
   have hs:(R.sv (R.of (g i)))[j]?=some (R.sv (R.of (g i)))[j]:=J6 bn;have V1:=hd i j _ _ hi (by rw[pg i hi];exact hs) (J6 b6);have:=sv_V hI hs V1;rw[J6 b6];unfold GN;rw[Zm i hi,Lr _ j Fv];rw[J6 Fv]at this;exact this.symm
  have S0:∀x,∀v∈GN R (λx=>x∈R.lst n g) x,v.oneCell'=true:=λx v hv=>by obtain⟨s,hs,rfl⟩:=Js.1 hv;obtain⟨k,q,rfl⟩:=hI _ s hs;rfl
  have hH:HoldsK (GN R (λx=>x∈R.lst n g)) R.sz w b o d:=by
   intro t ht;have wz:t<n*R.sz:=by simpa[Q6]using ht
   have hz:0<R.sz:=by
    rcases Ks R.sz with hz|hz
    .rw[hz]at wz;omega
    .exact hz
   have t1:t/R.sz<n:=Nat.div_lt_of_lt_mul (by rwa[My]);have t2:=Nw t hz;have q:=b94 (enc:=GN R (λx=>x∈R.lst n g)) (k:=R.sz) (d:=d) (i:=t/R.sz) (j:=t%R.sz) Dx t2;have hc:=dj (t/R.sz) (t%R.sz) t1 t2;rw[Lk,Nat.div_add_mod']at hc;rw[Nat.div_add_mod']at q;rw[q.2];refine⟨?_,?_⟩
   .simp only[World.cell?,hh,Option.isSome_none,Ir,List.getElem?_toArray];exact hc
   .simp[World.frozen?,hh]
  have w9:CmpLays Tryz.prog fc cvs.toArray (GN R (λx=>x∈R.lst n g)) R.sz (λx y=>BB (key x.1) (key y.1)) b o d.size w:=by
   intro q os dk hdk x y;have br:w.heap.size<=(sortWorldK (GN R (λx=>x∈R.lst n g)) R.sz w b o q dk os).heap.size:=b30;have kp:Keeps w (sortWorldK (GN R (λx=>x∈R.lst n g)) R.sz w b o q dk os) (held A (GF (.slice (some ⟨b,o,none⟩) n m))) (held A (GF (.slice (some ⟨b,o,none⟩) n m))) BN BN:=
    ⟨br,λi hi b9=>b00 hi (λe=>b9 (.inr ⟨0,_,rfl,e▸Jl cm⟩)),λ_ _ h=>h,λ_ _ h=>h⟩
   obtain⟨p,Q7,mt⟩:=ri x.1 x.2 y.1 y.2;have jy:DL (sortWorldK (GN R (λx=>x∈R.lst n g)) R.sz w b o q dk os) (held A (GF (.slice (some ⟨b,o,none⟩) n m))) BN [.agg (R.sv x.1),.agg (R.sv y.1)] [.agg (GN R (λx=>x∈R.lst n g) x).toArray,.agg (GN R (λx=>x∈R.lst n g) y).toArray]:=
    ⟨rfl,λi s v hs hv=>by
      match i,hs,hv with
      |0,hs,hv=>
       simp at hs hv;subst hs hv;exact .agg _ (by simp[GN]) (λj s v hs hv=>sv_D hI hs hv)
      |1,hs,hv=>
       simp at hs hv;subst hs hv;exact .agg _ (by simp[GN]) (λj s v hs hv=>sv_D hI hs hv)⟩
   have Zn:DL (sortWorldK (GN R (λx=>x∈R.lst n g)) R.sz w b o q dk os) (held A (GF (.slice (some ⟨b,o,none⟩) n m))) BN caps cvs:=⟨fe,λi s v hs hv=>(qd i s v hs hv).keep kp⟩
   have:=pc.2 (held A (GF (.slice (some ⟨b,o,none⟩) n m))) (sortWorldK (GN R (λx=>x∈R.lst n g)) R.sz w b o q dk os) _ _ p _
    (λi hi=>by
      rcases hi with hi|⟨j,z,hj,hz⟩
      .exact K9 (hA i hi) br
      .unfold GF at hj;split at hj
       .cases hj;exact K9 (hv i hz).1 br
       .cases hj)
    (λg t hg=>⟨(cf g t hg).1,(cf g t hg).2.keep kp⟩) (c5u jy Zn) Q7 mt
   have e:(#[Value.agg (GN R (λx=>x∈R.lst n g) x).toArray,Value.agg (GN R (λx=>x∈R.lst n g) y).toArray]++cvs.toArray:Array Value)=([Value.agg (GN R (λx=>x∈R.lst n g) x).toArray,Value.agg (GN R (λx=>x∈R.lst n g) y).toArray]++cvs).toArray:=F6;rw[e];refine this.mono ?_;rintro e w' ⟨v,rfl,zf,bj⟩;cases zf;exact⟨rfl,b7d bj (λ_ h=>h)⟩
  have fu:=AnyQ.slices_SortFunc_total L R.sz aE zE (GN R (λx=>x∈R.lst n g)) hk S0 (λx y=>BB (key x.1) (key y.1)) (d4y (λx:{x:β // x∈R.lst n g}=>key x.1)) fc cvs.toArray b o m d w eg w9 hH hb Dx
   (λx y h1 h2=>Subtype.ext (rj _ x.2 _ y.2 (Pz _ _ (by simp only[ltOf,Lc]at h1 h2;have:=JQ (key x.1) (key y.1);omega))))
  rw[mn,Q6]at fu;refine fu.mono ?_;rintro e w' ⟨rfl,q,os,rfl⟩;generalize hM:(d.toList.mergeSort λx y=> !(ltOf (λx y:{x:β // x∈R.lst n g}=>BB (key x.1) (key y.1))) y x)=M;have rk:M.map (·.1)=GR key (R.lst n g):=by
   rw[<-hM,<-b6x key _ rj];rw[List.map_mergeSort (s:=λx y=>decide (BB (key x) (key y)<=0))]
   .simp[d]
   .intro x _ y _;have:=JQ (key x.1) (key y.1);simp only[ltOf,<-decide_not,decide_eq_decide];omega
  have j8:M.length=n:=by have:=Mf List.length rk;rw[K8,RV,ba]at this;exact this
  have Zp:∀i,i<n->(M.toArray[i]!).1=(GR key (R.lst n g)).getD i R.d:=λi hi=>by rw[<-rk,Lr M.toArray i Fz];simp[j8,hi]
  refine⟨_,rfl,λh=>E9,λ_=>rfl,⟨_,m,rfl,fm,jd,ft,λi hi=>⟨hL _,?_⟩,.inr ⟨b,o,(putCells id o (flatK (GN R (λx=>x∈R.lst n g)) R.sz M.toArray) vs.toArray).toList,cm,rfl,?_,?_,?_,?_⟩⟩,d45 (Jl cm)⟩
  .rw[Je];intro s hs;obtain⟨k,q,rfl⟩:=hI _ s hs;rfl
  .rw[b1t hh]
  .rw[Lh,b0x];simpa using ho
  .intro v hv;exact Dm
  .intro i j s v hi hs hv;have hj:j<R.sz:=Hd;have q:=b94 (enc:=GN R (λx=>x∈R.lst n g)) (k:=R.sz) (d:=M.toArray) (i:=i) (j:=j) Fz hj;rw[La,Lk,b2k q.1 (by simp;have:=bg i j hi hj;omega),q.2]at hv;cases hv;have hs':(R.sv (M.toArray[i]!).1)[j]?=some s:=by rw[Zp i hi];exact hs
   refine sv_D hI hs' ?_;have bn:j<((R.sv (M.toArray[i]!).1).map svV).length:=by rw[K8,hL];exact hj
   unfold GN;rw[Lr _ j bn];exact J6 bn
end
def Vp:SV->Option (Prop×List Int)
 |.rel 1 1 f 0 0=>match f 0 with
  | [.rel 8 1 g 0 0]=>match g 0 with
    | [_,_,_,_,_,.sl 1 n h _,_,_]=>some ((∀j,g j=g 0)/\h=AC.row (AC.lst n h),AC.lst n h)
    |_=>none
  |_=>none
 |_=>none
abbrev C8:=SV×SV×SV×SV×SV×SV×SV×Option Nat
def capS:List Int->C8->SV
 |l,(a,b,c,d,e,f,g,h)=>.rel 1 1 (λ_=>[.rel 8 1 (λ_=>[a,b,c,d,e,.sl 1 l.length (AC.row l) h,f,g]) 0 0]) 0 0
theorem d3e{s:SV}{q:Prop}{l:List Int}(h:Vp s=some (q,l))(k:q):∃z,s.le2 (capS l z):=by
 unfold Vp at h;split at h
 .split at h
  .split at h
   .rename_i f _ g m _ a b c d e n o i x y r;cases h;obtain⟨t,u⟩:=k;refine⟨(a,b,c,d,e,x,y,i),?_⟩;simp only[capS,SV.le2,SV.le1,SV.le0,Nt,RT.lst_length];intro j hj;rw[show j=0 from Dx,m];have v:g=λ_=>[a,b,c,d,e,.sl 1 n o i,x,y]:=Nh λj=>by rw[t j,r]
    rw[v,<-u]
   .cases h
  .cases h
 .cases h
def WU:AK
 | [.agg [.int .i64 a,.int .i64 _],.agg [.int .i64 c,.int .i64 _],s]=>(Vp s).map λq=>(q.1/\(0<=a/\a<q.2.length)/\0<=c/\c<q.2.length,.int .i64 (CY (q.2.getD a.toNat 0) (q.2.getD c.toNat 0)))
 |_=>none
def FSrt1:Fam:=⟨(Int×Int×Int×Int)×List Int×C8,λ((a,b,c,d),l,z)=>[.agg [.int .i64 a,.int .i64 b],.agg [.int .i64 c,.int .i64 d],capS l z],λ((a,_,c,_),l,_)=>(0<=a/\a<l.length)/\0<=c/\c<l.length,λ((a,_,c,_),l,_)=>.int .i64 (CY (l.getD a.toNat 0) (l.getD c.toNat 0))⟩
theorem pSrt1:PS 140 WU:=by
 refine con [(115,Td)] (by simpa using pCmp) FSrt1 (λ_ _=>none) WU ?_ ?_ Tryz.func140 Dy Dy Dy ?_
 .intro args pre s h e;unfold WU at h;split at h
  .rename_i a b c d x;simp only[Jc]at h;obtain⟨⟨q,l⟩,hx,f⟩:=h;cases f;obtain⟨z,g⟩:=d3e hx e.1;exact⟨((a,b,c,d),l,z),⟨Ed,Ed,g,Ja⟩,e.2,rfl⟩
  .cases h
 .exact Bz
 .rintro⟨⟨a,b,c,d⟩,l,x1,x2,x3,x4,x5,x6,x7,cp⟩ e;replace e:(0<=a/\a<l.length)/\0<=c/\c<l.length:=e;refine X0a _ ?_;(repeat' first|constructor|intro h)<;>refine Lm ?_
  all_goals(first|exact e.1|exact e.2|rfl|skip)
section
open Go.Sort Go.Proofs Go.Shelf
def Ou(l:List Int)(x:Pa):List Int:=[l.getD x.a.toNat 0]
def b9d:KV:=λ_ d n g b=>match b with
 | [.clo f [c]]=>if f=140/\d=2 then(Vp c).map λq=>(q.1/\CE.is n g/\n<=100000/\(∀x∈CE.lst n g,0<=x.a/\x.a<q.2.length)/\(∀x∈CE.lst n g,∀y∈CE.lst n g,Ou q.2 x=Ou q.2 y->x=y),CE.row (GR (Ou q.2) (CE.lst n g)),false)else none
 |_=>none
theorem f7p:ES 139 b9d:=by
 refine g1p CE Tryz.sortPass rfl ⟨_,Tryz.func139,Dy,Dy⟩ (λw=>Tryz.isAgg229 w) (λw=>Tryz.sizeOf229 w) (λ_=>rfl) (λx s hs=> ?_) WU pSrt1 (enters_of Tryz.func140 Dy rfl) b9d ?_
 .simp[CE]at hs;rcases hs with rfl|rfl
  .exact C9
  .exact C9
 .intro T sz n g rest pre g' r h;unfold b9d at h;split at h;rotate_left
  .cases h
  rename_i f c;split at h;rotate_left
  .cases h
  rename_i i;obtain⟨rfl,rfl⟩:=i;simp only[Jc]at h;obtain⟨⟨q,l⟩,hx,j⟩:=h;cases j;refine⟨rfl,rfl,[c],Ou l,rfl,λd=>⟨d.2.1,d.2.2.1,λx k y m=> ?_,d.2.2.2.2,rfl⟩⟩;refine⟨q/\(0<=x.a/\x.a<l.length)/\0<=y.a/\y.a<l.length,?_,d.1,d.2.2.2.1 x k,d.2.2.2.1 y m⟩;show WU [.agg [.int .i64 x.a,.int .i64 x.b],.agg [.int .i64 y.a,.int .i64 y.b],c]=_;simp only[WU,hx,Kh,Ii,Nt,SV.int.injEq];simp only[Ou,BB];split
  .rename_i e;rw[e];simp[CY]
  .rfl
end
def LM:List Int->Int
 | []=>0
 |a::r=>if a=0 then LM r else a
theorem d5g:∀{l:List Int} {i:Nat},(∀j,j<i->l.getD j 0=0)->i<l.length->l.getD i 0≠0->LM l=l.getD i 0
 | [],_,_,h,_=>E8
 |a::r,0,_,_,hv=>by simp only[LM];rw[J8 G3];rfl
 |a::r,i+1,h,hi,hv=>by
  have b:a=0:=by simpa using h 0 Dx
  simp only[LM];rw[J7 b];have:=d5g (l:=r) (i:=i) (λj hj=>by simpa using h (j+1) Dx) Eu G3;simpa using this
theorem c6n:∀{l:List Int},(∀j,j<l.length->l.getD j 0=0)->LM l=0
 | [],_=>rfl
 |a::r,h=>by
  have b:a=0:=by simpa using h 0 Dz
  simp only[LM];rw[J7 b];exact c6n (λj hj=>by simpa using h (j+1) En)
def YA:AK
 | [x]=>match AC.as x with
   |some (n,f)=>some (AC.is n f/\n<=100000,.int .i64 (LM (AC.lst n f)))
   |none=>none
 |_=>none
def FOrL:Fam:=⟨List Int,λl=>[.sl 1 l.length (AC.row l) none],λl=>l.length<=100000,λl=>.int .i64 (LM l)⟩
def IOrL(l:List Int):Nat->Option Inv
 |3=>some {β:=Nat,ok:=λi=>i<=l.length/\∀j,j<i->l.getD j 0=0,st:=λi=>⟨[⟨8,none,.int .i64 i⟩,⟨7,none,.int .i64 l.length⟩,⟨6,none,.sl 1 l.length (AC.row l) none⟩,⟨3,none,.int .i64 0⟩],[]⟩,μ:=λi=>l.length-i}
 |_=>none
theorem pOrL:PS 108 YA:=by
 refine con [] Dz FOrL IOrL YA ?_ ?_ Tryz.func108 Dy Dy Dy ?_
 .intro args pre s h a;unfold YA at h;split at h
  .split at h
   .rename_i n f hx;cases h;exact⟨AC.lst n f,⟨IW (AC.as_le hx a.1),Ja⟩,by simp only[FOrL,RT.lst_length];exact a.2,rfl⟩
   .cases h
  .cases h
 .exact By
 .rintro l a;replace a:l.length<=100000:=a;refine X0a _ ?_;(repeat' first|constructor|intro h)<;>refine Lm ?_
  refine⟨(0:Nat),⟨Jj _,λj d=>Dx⟩,?_,?_⟩
  .exact X0d
  .intro i g;obtain⟨f7,c⟩:=g;refine X0a _ ?_;(repeat' first|constructor|intro h)<;>refine Lm ?_
   all_goals(try simp only[If,Ig]at*)
   all_goals(first
    |exact Ak
    |(exact(d5g c Dx E2).symm)
    |(refine⟨i+1,⟨Dx,λj d=> ?_⟩,Ea,?_⟩)
    |(exact(c6n (λj d=>c j Dx)).symm)
    |skip)
   .by_cases e:j=i
    .subst e;exact h
    .exact c j Dx
   .exact X0e
section
open Go.Sort Go.Proofs Go.Shelf
def Vf:AK
 | [.agg [.int .u8 p,.int .i64 a,.int .i64 _],.agg [.int .u8 q,.int .i64 c,.int .i64 _],s]=>(Vp s).map λz=>(z.1/\(0<=a/\a<z.2.length)/\0<=c/\c<z.2.length,.int .i64 (LM [CY p q,CY (z.2.getD a.toNat 0) (z.2.getD c.toNat 0)]))
 |_=>none
def FSrt2:Fam:=⟨(Int×Int×Int×Int×Int×Int)×List Int×C8,λ((p,a,b,q,c,d),l,z)=>[.agg [.int .u8 p,.int .i64 a,.int .i64 b],.agg [.int .u8 q,.int .i64 c,.int .i64 d],capS l z],λ((_,a,_,_,c,_),l,_)=>(0<=a/\a<l.length)/\0<=c/\c<l.length,λ((p,a,_,q,c,_),l,_)=>.int .i64 (LM [CY p q,CY (l.getD a.toNat 0) (l.getD c.toNat 0)])⟩
theorem pSrt2:PS 142 Vf:=by
 refine con [(115,Td),(143,f07),(108,YA)] (by simpa using⟨pCmp,pCmp8,pOrL⟩) FSrt2 (λ_ _=>none) Vf ?_ ?_ Tryz.func142 Dy Dy Dy ?_
 .intro args pre s h e;unfold Vf at h;split at h
  .rename_i p a b q c d x;simp only[Jc]at h;obtain⟨⟨w,l⟩,hx,f⟩:=h;cases f;obtain⟨z,g⟩:=d3e hx e.1;exact⟨((p,a,b,q,c,d),l,z),⟨Ed,Ed,g,Ja⟩,e.2,rfl⟩
  .cases h
 .exact Bz
 .rintro⟨⟨p,a,b,q,c,d⟩,l,x1,x2,x3,x4,x5,x6,x7,cp⟩ e;replace e:(0<=a/\a<l.length)/\0<=c/\c<l.length:=e;refine X0a _ ?_;(repeat' first|constructor|intro h)<;>refine Lm ?_
  all_goals(first
   |exact e.1
   |exact e.2
   |rfl
   |exact⟨λi j=>match i,j with
    |0,_=>rfl
    |1,_=>rfl,Dx⟩
   |skip)
def Pg(l:List Int)(x:Lo):List Int:=[x.s,l.getD x.a.toNat 0]
theorem lo_cmp(p q a b:Int):LM [CY p q,CY a b]=BB [p,a] [q,b]:=by
 simp only[LM,BB];by_cases e:p=q
 .subst e;rw[J7 rfl,show CY p p=0 by simp[CY],J7 rfl];by_cases c:a=b
  .subst c;simp[CY]
  .rw[J8 c];split<;>simp_all
 .rw[J8 e,J8];unfold CY;split<;>(try split)<;>omega
def c04:KV:=λ_ d n g b=>match b with
 | [.clo f [c]]=>if f=142/\d=3 then(Vp c).map λq=>(q.1/\BR.is n g/\n<=100000/\(∀x∈BR.lst n g,0<=x.a/\x.a<q.2.length)/\(∀x∈BR.lst n g,∀y∈BR.lst n g,Pg q.2 x=Pg q.2 y->x=y),BR.row (GR (Pg q.2) (BR.lst n g)),false)else none
 |_=>none
theorem g0w:ES 141 c04:=by
 refine g1p BR Tryz.sortLoop rfl ⟨_,Tryz.func141,Dy,Dy⟩ (λw=>Tryz.isAgg158 w) (λw=>Tryz.sizeOf158 w) (λ_=>rfl) (λx s hs=> ?_) Vf pSrt2 (enters_of Tryz.func142 Dy rfl) c04 ?_
 .simp[BR]at hs;rcases hs with rfl|rfl|rfl
  .exact C9
  .exact C9
  .exact C9
 .intro T sz n g rest pre g' r h;unfold c04 at h;split at h;rotate_left
  .cases h
  rename_i f c;split at h;rotate_left
  .cases h
  rename_i e;obtain⟨rfl,rfl⟩:=e;simp only[Jc]at h;obtain⟨⟨q,l⟩,hx,i⟩:=h;cases i;refine⟨rfl,rfl,[c],Pg l,rfl,λd=>⟨d.2.1,d.2.2.1,λx j y k=> ?_,d.2.2.2.2,rfl⟩⟩;refine⟨q/\(0<=x.a/\x.a<l.length)/\0<=y.a/\y.a<l.length,?_,d.1,d.2.2.2.1 x j,d.2.2.2.1 y k⟩;show Vf [.agg [.int .u8 x.s,.int .i64 x.a,.int .i64 x.b],.agg [.int .u8 y.s,.int .i64 y.a,.int .i64 y.b],c]=_;simp only[Vf,hx,Kh,Pg,lo_cmp]
end
section
open Go.Sort Go.Proofs Go.Shelf
section
variable{α:Type} [Inhabited α] {enc:α->Value}{w:World}{b o m:Nat}{d:Array α}{os:Array Obj}
theorem d9k{i:Nat}(hi:i<w.heap.size)(a:i≠b):(grow (Go.Sort.putRow enc (Sort.ahead w m) b o d) os).heap[i]?=w.heap[i]?:=by rw[heap_grow_old _ _ I2];show (w.heap.modify b _)[i]?=_;rw[Ms,J8 (Ne.symm a)]
theorem d55{c:Array Value}{T:TypeId}{z:Nat×Nat}(h:w.heap[b]?=some (.cells c T z)):(grow (Go.Sort.putRow enc (Sort.ahead w m) b o d) os).heap[b]?=some (.cells (putCells enc o d c) T z):=by have hi:b<w.heap.size:=(Kk.1 h).1;rw[heap_grow_old _ _ I2];show (w.heap.modify b _)[b]?=_;rw[Ms,J7 rfl,h];rfl
theorem f7m:w.heap.size<=(grow (Go.Sort.putRow enc (Sort.ahead w m) b o d) os).heap.size:=by simp[grow,Go.Sort.putRow,mapBlock,Sort.ahead]
theorem fr_pr{X:Nat->Prop}(a:X b):Fr w.heap.size X w (grow (Go.Sort.putRow enc (Sort.ahead w m) b o d) os):=
 ⟨rfl,rfl,rfl,λ_=>Nat.le_add_right _ _,f7m,λ_ c f=>d9k c (λe=>f (e▸a))⟩
end
def Un(x:Int):List Int->List Int
 | []=>[x]
 |y::r=>if x<=y then x::y::r else y::Un x r
def NY(l:List Int):List Int:=l.foldr Un []
theorem b55(x:Int):∀l,(Un x l).Perm (x::l)
 | []=>.refl _
 |y::r=>by
  simp only[Un];split
  .exact .refl _
  .exact((b55 x r).cons y).trans (.swap x y r)
theorem b1n:∀l,(NY l).Perm l
 | []=>.refl _
 |x::l=>(b55 x _).trans ((b1n l).cons x)
theorem b0d(l:List Int):(NY l).length=l.length:=(b1n l).length_eq
theorem d6n(l:List Int)(x:Int):x∈NY l↔x∈l:=(b1n l).mem_iff
theorem b5b(x:Int):∀l,l.Pairwise (λa b=>a<=b)->(Un x l).Pairwise (λa b=>a<=b)
 | [],_=>List.pairwise_singleton _ _
 |y::r,h=>by
  have d:=Kn.1 h;simp only[Un];split
  .rename_i e;exact Kn.2 ⟨λz c=>by
    rcases Ji.1 c with rfl|c
    .exact e
    .exact Int.le_trans e (d.1 z c),h⟩
  .rename_i e;refine Kn.2 ⟨λz c=> ?_,b5b x r d.2⟩;rcases Ji.1 ((b55 x r).mem_iff.1 c)with rfl|c
   .omega
   .exact d.1 z c
theorem b3w:∀l,(NY l).Pairwise (λa b=>a<=b)
 | []=>List.Pairwise.nil
 |x::l=>b5b x _ (b3w l)
theorem c3i(l:List Int):(l.mergeSort λx y=>decide (x<=y))=NY l:=by have f:=List.mergeSort_perm l (λx y=>decide (x<=y));refine List.Perm.eq_of_pairwise (le:=λa b=>a<=b) (λa b _ _ d e=>Int.le_antisymm d e) ?_ (b3w l) (f.trans (b1n l).symm);have:=List.pairwise_mergeSort (le:=λx y:Int=>decide (x<=y)) (λa b c d e=>by simp only[Jh]at*;omega) (λa b=>by simp only[Kd,Jh];omega) l;exact this.imp λh=>E4
def d6y:KV:=λ_ b n g a=>match a with
 | []=>if b=1 then some (AC.is n g/\n<=100000,AC.row (NY (AC.lst n g)),false)else none
 |_=>none
theorem xSortI:ES 144 d6y:=by
 refine⟨⟨_,Tryz.func144,Dy,Dy⟩,?_⟩;intro A w v T sz n g c rest d pre g' r hA f cf K L k M;unfold d6y at k;split at k;rotate_left
 .cases k
 split at k;rotate_left
 .cases k
 rename_i N;subst N;cases k;obtain⟨O,hn⟩:=M;obtain rfl:d=[]:=by
  have:=L.1;match d,this with
  | [],_=>rfl
 obtain⟨a,m,rfl,y,B,C,hl,E⟩:=K;rcases Ks n with F|F
 .subst F;have l:=AnyM.slices_Sort_int_none Tryz.sortInts a m w;refine l.mono ?_;rintro e P ⟨rfl,rfl⟩;refine⟨_,rfl,λh=>E9,λ_=>rfl,⟨a,m,rfl,y,B,C,λi hi=>absurd hi Dx,?_⟩,Fr.refl _ _ _⟩;rcases E with h|⟨b,o,vs,cm,rfl,hh,ho,h1,G⟩
  .exact .inl h
  .exact Cy
 .rcases E with h|⟨b,o,vs,cm,rfl,hh,ho,h1,G⟩
  .omega
  have Q:b<w.heap.size:=(Kk.1 hh).1;have u:(AC.lst n g).length=n:=RT.lst_length AC n g;have H:∀i,i<n->o+i<vs.length:=λi hi=>Dx;have R:∀i,i<n->vs[o+i]?=some (.int .i64 ((AC.lst n g).getD i 0)):=by intro i hi;have x:=H i hi;have I:=G i 0 (.int .i64 ((AC.lst n g).getD i 0)) (vs[o+i]) hi (by rw[O i hi];simp[RT.lst,hi];rfl) (by simp[J6 x]);rw[J6 x];generalize vs[o+i]=z at I⊢;cases I;rfl
  have S:Holds (Value.int .i64) w b o (AC.lst n g).toArray:=by
   intro t U;have J:t<n:=by simpa[u]using U
   refine⟨?_,?_⟩
   .simp only[World.cell?,hh,Option.isSome_none,Ir,List.getElem?_toArray];rw[R t J];simp[u,J]
   .simp[World.frozen?,hh]
  have l:=AnyM.slices_Sort_int Tryz.sortInts b o m (AC.lst n g) w S Q Dx;rw[u,c3i]at l;refine l.mono ?_;rintro e P ⟨rfl,q,os,rfl⟩;have j8:(NY (AC.lst n g)).length=n:=by rw[b0d,u]
  refine⟨_,rfl,λh=>E9,λ_=>rfl,⟨_,m,rfl,y,B,C,λi hi=>⟨rfl,rfl⟩,.inr ⟨b,o,(putCells (Value.int .i64) o (NY (AC.lst n g)).toArray vs.toArray).toList,cm,rfl,?_,?_,?_,?_⟩⟩,fr_pr (Jl cm)⟩
  .first
   |(rw[d55 hh];done)
   |(rw[d55 hh];rfl)
  .simp[putCells];omega
  .intro v f;simp only[putCells,Array.toList_mapIdx,List.mem_mapIdx]at f;obtain⟨i,hi,rfl⟩:=f;split
   .rfl
   .exact h1 _ Dz
  .intro i j s v hi hs f;have V:j=0:=by
    have:=(J9.1 hs).1;have:(AC.row (NY (AC.lst n g)) i).length=1:=rfl;omega
   subst V;have x:=H i hi;simp only[putCells,Array.toList_mapIdx,List.getElem?_mapIdx,Nat.mul_one,Me,J6 x,Kh,K0]at f;rw[J7 ⟨Dx,by simp[j8];omega⟩]at f;subst f;have e:s=.int .i64 ((NY (AC.lst n g)).getD i 0):=by have:(AC.row (NY (AC.lst n g)) i)[0]?=some (.int .i64 ((NY (AC.lst n g)).getD i 0)):=rfl;rw[this]at hs;exact(Kf hs).symm
   subst e;rw[show o+i-o=i from Dx,Lr _ i Fz];simp[j8,hi];exact .int
end
def b0u:AK
 | [.sl 2 n f _]=>some (n<=100000/\∀i,i<n->(f i).all SV.flat0=true,.sl 2 n f none)
 | [.con (.slice none 0 0)]=>some (True,.sl 2 0 (λ_=>[]) none)
 |_=>none
def c3s:Fam:=⟨Nat×(Nat->List SV),λ(n,f)=>[.sl 2 n f none],λ(n,f)=>n<=100000/\∀i,i<n->(f i).all SV.flat0=true,λ(n,f)=>.sl 2 n f none⟩
theorem c52:PF 146 b0u:=by
 refine Ym {} ⟨Dz,Dz,Dz⟩ c3s (λ_ _=>none) b0u ?_ ?_ Tryz.func146 Dy Dy Dy ?_
 .intro args pre s h hp;unfold b0u at h;split at h
  .rename_i n f c;cases h;exact C1
  .cases h;exact Cc
  .cases h
 .exact By
 .rintro⟨n,f⟩ ⟨hp,di⟩;refine X0a _ ?_;(repeat' first|constructor|intro h)<;>refine Lm ?_
  all_goals(first
   |exact Am
   |(intro i hi;simp;done)
   |skip)
def b0s:AK
 | [.sl 3 n f _]=>some (n<=100000/\∀i,i<n->(f i).all SV.flat0=true,.sl 3 n f none)
 | [.con (.slice none 0 0)]=>some (True,.sl 3 0 (λ_=>[]) none)
 |_=>none
def c3u:Fam:=⟨Nat×(Nat->List SV),λ(n,f)=>[.sl 3 n f none],λ(n,f)=>n<=100000/\∀i,i<n->(f i).all SV.flat0=true,λ(n,f)=>.sl 3 n f none⟩
theorem c3a:PF 148 b0s:=by
 refine Ym {} ⟨Dz,Dz,Dz⟩ c3u (λ_ _=>none) b0s ?_ ?_ Tryz.func148 Dy Dy Dy ?_
 .intro args pre s h hp;unfold b0s at h;split at h
  .rename_i n f c;cases h;exact C1
  .cases h;exact Cc
  .cases h
 .exact By
 .rintro⟨n,f⟩ ⟨hp,di⟩;refine X0a _ ?_;(repeat' first|constructor|intro h)<;>refine Lm ?_
  all_goals(first
   |exact Am
   |(intro i hi;simp;done)
   |skip)
def b1e:AK
 | [.sl 1 n f _]=>some (n<=100000/\∀i,i<n->(f i).all SV.flat0=true,.sl 1 n f none)
 | [.con (.slice none 0 0)]=>some (True,.sl 1 0 (λ_=>[]) none)
 |_=>none
def d0u:Fam:=⟨Nat×(Nat->List SV),λ(n,f)=>[.sl 1 n f none],λ(n,f)=>n<=100000/\∀i,i<n->(f i).all SV.flat0=true,λ(n,f)=>.sl 1 n f none⟩
theorem d0i:PF 131 b1e:=by
 refine Ym {} ⟨Dz,Dz,Dz⟩ d0u (λ_ _=>none) b1e ?_ ?_ Tryz.func131 Dy Dy Dy ?_
 .intro args pre s h hp;unfold b1e at h;split at h
  .rename_i n f c;cases h;exact C1
  .cases h;exact Cc
  .cases h
 .exact By
 .rintro⟨n,f⟩ ⟨hp,di⟩;refine X0a _ ?_;(repeat' first|constructor|intro h)<;>refine Lm ?_
  all_goals(first
   |exact Am
   |(intro i hi;simp;done)
   |skip)
structure Ky where
 a:Cl
 b:Cl
 deriving DecidableEq
def GT:RT Ky:=⟨6,λk=>[.int .i64 k.a.x,.int .i64 k.a.y,.int .u8 k.a.q,.int .i64 k.b.x,.int .i64 k.b.y,.int .u8 k.b.q],λl=>match l with
 | [.int _ a,.int _ b,.int _ c,.int _ d,.int _ e,.int _ f]=>⟨⟨a,b,c⟩,⟨d,e,f⟩⟩
 |_=>⟨⟨0,0,0⟩,⟨0,0,0⟩⟩,⟨⟨0,0,0⟩,⟨0,0,0⟩⟩,λ_=>rfl⟩
def IP(s:Sm):Ky:=⟨s.a,s.b⟩
theorem d6v(S:List Sm)(i:Nat):JZ S i=GT.row (S.map IP) i:=by
 have:(S.map IP).getD i GT.d=IP (S.getD i BD):=by simp only[J5,Jz];cases S[i]?<;>rfl
 unfold JZ RT.row;rw[this];rfl
def c89(b:Bd)(S:List Sm)(K:List Ky):List Blk:=[.cells 188 [.int .i64 b.p.W,.int .i64 b.p.H,.sl 3 b.p.l.length (DU b.p.l) none,.sl 3 b.pl.length (AE.row b.pl) none,.sl 3 b.im.length (DE.row b.im) none,.osl 2,.omp 3,.osl 4],
 .fam 156 [(229,2),(158,3),(3,1)] S.length none (λi=>JX (S.getD i BD)),
 .row 3 1 b.ht.length (AC.row b.ht) none,.pmap (.ints [.i64,.i64,.u8,.i64,.i64,.u8]) 1 (DR S) (CQ S),.row 193 6 K.length (GT.row K) none]
def f7w:List Blk->Option (Prop×Bd×List Sm×List Ky)
 | [.cells l [.int .i64 W,.int .i64 H,m,pl,o,.osl k1,.omp k2,.osl k3],.fam p r b s F,.row t u c d _,.pmap K k4 a BQ,.row v w e g _]=>
   match NU m,AE.as pl,DE.as o with
   |some (n,f),some (h,f2),some (j,k)=>if(l=188/\k1=2/\k2=3/\k3=4/\t=3/\u=1)/\(K=.ints [.i64,.i64,.u8,.i64,.i64,.u8]/\k4=1/\v=193/\w=6)/\p=156/\r=[(229,2),(158,3),(3,1)]/\s=none then
    some (((KZ n f/\n<=100000)/\AE.is h f2/\DE.is j k/\AC.is c d)/\GT.is e g/\(∀q,a q=DR (KY b F) q)/\(∀q,a q=true->BQ q=CQ (KY b F) q)/\∀i,i<b->(F i).le (JX (TG (F i))),
    ⟨⟨W,H,DZ n f⟩,AE.lst h f2,DE.lst j k,AC.lst c d⟩,KY b F,GT.lst e g)
    else none
   |_,_,_=>none
 |_=>none
theorem d9f{own:List Blk}{q:Prop}{b:Bd}{S:List Sm}{K:List Ky}(h:f7w own=some (q,b,S,K))(d:q):own.length=5/\SH 5 own (c89 b S K)/\b.p.l.length<=100000:=by
 unfold f7w at h;split at h;rotate_left
 .cases h
 rename_i T1 W H cr pl im k1 k2 k3 T4 Ts a bw F T2 z2 e g c1 KK k4 has BQ T3 z3 j k c2;split at h;rotate_left
 .cases h
 rename_i n f n2 f2 n3 f3 h1 h2 h3;split at h;rotate_left
 .cases h
 rename_i m;obtain⟨⟨rfl,rfl,rfl,rfl,rfl,rfl⟩,⟨rfl,rfl,rfl,rfl⟩,rfl,rfl,rfl⟩:=m;simp only[Ii]at h;obtain⟨rfl,rfl,rfl,rfl⟩:=h;obtain⟨⟨q1,q2,q3,o⟩,r,s,t,u⟩:=d;refine⟨rfl,⟨⟨?_,?_⟩,⟨?_,?_,rfl,?_⟩,⟨?_,?_,?_,?_⟩,⟨?_,s,t⟩,⟨?_,?_,?_,?_⟩,Ja⟩,H9⟩
 .exact Ca
 .exact Di
 .rw[J7 ⟨rfl,rfl,rfl⟩];trivial
 .exact(b3i a F).symm
 .intro i c;have:(KY a F).getD i BD=TG (F i):=by simp[KY,c]
  show (F i).le (JX ((KY a F).getD i BD));rw[this];exact u i c
 .exact Ca
 .exact(RT.lst_length AC e g).symm
 .exact Ja
 .exact RQ (AC.row_lst o)
 .rw[J7 ⟨rfl,rfl,E1⟩];trivial
 .exact Ca
 .exact(RT.lst_length GT j k).symm
 .exact Ja
 .exact RQ (GT.row_lst r)
def Kl(b:Bd)(s:Sm):Sm:={s with ps:=GR (Ou b.ht) s.ps,ls:=GR (Pg b.ht) s.ls,en:=NY s.en}
def smSV(s:Sm):SV:=.agg [.int .i64 s.a.x,.int .i64 s.a.y,.int .u8 s.a.q,.int .i64 s.b.x,.int .i64 s.b.y,.int .u8 s.b.q,.sl 2 s.ps.length (CE.row s.ps) (some s.ps.length),.sl 3 s.ls.length (BR.row s.ls) (some s.ls.length),.sl 1 s.en.length (AC.row s.en) (some s.en.length)]
def c9d(b:Bd)(s:Sm):Prop:=(s.ps.length<=100000/\s.ls.length<=100000/\s.en.length<=100000)/\((∀x∈s.ps,0<=x.a/\x.a<b.ht.length)/\∀x∈s.ls,0<=x.a/\x.a<b.ht.length)/\(∀x∈s.ps,∀y∈s.ps,Ou b.ht x=Ou b.ht y->x=y)/\∀x∈s.ls,∀y∈s.ls,Pg b.ht x=Pg b.ht y->x=y
theorem c96(b:Bd)(s:Sm):BU (Kl b s)=BU s:=rfl
theorem b3j(b:Bd)(S:List Sm)(i:Nat):(S.set i (Kl b (S.getD i BD))).map BU=S.map BU:=b27 _ _ _ (c96 b _)
theorem c9n(b:Bd)(S:List Sm)(i:Nat):∀q,DR S q=DR (S.set i (Kl b (S.getD i BD))) q:=λq=>by rw[TX,TX,b3j]
theorem c9w(b:Bd)(S:List Sm)(i:Nat):∀q,DR S q=true->CQ S q=CQ (S.set i (Kl b (S.getD i BD))) q:=λq _=>by rw[WC,WC,b3j]
theorem c9t(b:Bd)(S:List Sm)(i:Nat):∀j,j<S.length->JZ S j=JZ (S.set i (Kl b (S.getD i BD))) j:=λj a=>c1q (b3j b S i).symm j a
theorem c9s(b:Bd)(S:List Sm)(i:Nat):S.length=(S.set i (Kl b (S.getD i BD))).length:=Dz
def b4m:HK:=λa own=>match a with
 | [.own 0 0,.fp b 1 i 0]=>(f7w own).map λq=>⟨q.1/\b=true/\i<q.2.2.1.length/\c9d q.2.1 (q.2.2.1.getD i BD),smSV (Kl q.2.1 (q.2.2.1.getD i BD)),c89 q.2.1 (q.2.2.1.set i (Kl q.2.1 (q.2.2.1.getD i BD))) q.2.2.2,[1]⟩
 |_=>none
def d9t:FamH:=⟨(Bd×List Sm×List Ky)×Nat,λ(_,i)=>[.own 0 0,.fp true 1 i 0],λ((b,S,K),_)=>c89 b S K,λ((b,S,_),i)=>b.p.l.length<=100000/\i<S.length/\c9d b (S.getD i BD),λ((b,S,_),i)=>smSV (Kl b (S.getD i BD)),λ((b,S,K),i)=>c89 b (S.set i (Kl b (S.getD i BD))) K,[1]⟩
theorem f2d:HS 109 b4m:=by
 refine FU {l:=[(145,b2g),(147,b2e),(130,WL)],fs:=[(146,b0u),(148,b0s),(131,b1e)],fsok:=by simpa using⟨c52,c3a,d0i⟩,x:=[(139,b9d),(141,c04),(144,d6y)],G:={g0:=[.focus 1],gx:=λ_=>[.unfocus 1]}} ⟨by simpa using⟨d5a,d34,c0c⟩,by simpa using⟨f7p,g0w,xSortI⟩,Dz⟩ d9t (λ_ _=>none) b4m ?_ ?_ ?_ Tryz.func109 Dy Dy Dy ?_
 .intro args own r h a;unfold b4m at h;split at h
  .rename_i ok i;simp only[Jc]at h;obtain⟨⟨q,k,S,K⟩,hx,rfl⟩:=h;obtain⟨m,n,o⟩:=d9f hx a.1;obtain⟨_,rfl,a⟩:=a;exact⟨((k,S,K),i),⟨E6,E6,Ja⟩,m,n,⟨o,a⟩,rfl,rfl,rfl⟩
  .cases h
 .exact Bx
 .intro i;show 5<=5;decide
 .rintro⟨⟨b,S,K⟩,i⟩ μ ⟨hp0,c,⟨d,f,g⟩,⟨s,t⟩,u,v⟩;refine X0a _ ?_;(repeat' first|constructor|intro h)<;>refine Lm ?_
  all_goals(try simp only[RT.lst_row]at*)
  all_goals(first
   |exact⟨Ja,c⟩
   |exact⟨⟨⟨λ_=>Ja,Ja⟩,RT.is_row CE _,d,s,u⟩,λ_ _=>rfl⟩
   |exact⟨⟨⟨λ_=>Ja,Ja⟩,RT.is_row BR _,f,t,v⟩,λ_ _=>rfl⟩
   |exact⟨RT.is_row AC _,g⟩
   |exact⟨d,λ_ _=>rfl⟩
   |exact⟨f,λ_ _=>rfl⟩
   |exact⟨g,λ_ _=>rfl⟩
   |exact d
   |exact f
   |exact g
   |exact A2
   |exact(RV _ _).symm
   |exact Mf some (RV _ _).symm
   |exact(b0d _).symm
   |exact Mf some (b0d _).symm
   |exact c9n _ _ _
   |exact c9w _ _ _
   |exact c9t _ _ _
   |exact c9s _ _ _
   |(intro j hj
     by_cases e:j=i
     .subst e;rw[J7 rfl,b1a c,J7 rfl];exact⟨rfl,(RV _ _).symm,λ_ _=>rfl,(RV _ _).symm,λ_ _=>rfl,(b0d _).symm,λ_ _=>rfl,Ja⟩
     .rw[J8 e,b1a c,J8 e];exact UA _)
   |skip)
def FS(q:List Int)(x:Cr):Bool:=decide (q=[x.c,x.e])
def EF(l:List Cr)(q:List Int):Bool:=l.any (FS q)
def b4h:AK
 | [x]=>match NS x with
   |some (a,p)=>some (a/\∀c∈p.l,AD .u8 c.e,.mp (.ints [.i64,.u8]) false (EF p.l) (λq=>[.bool (EF p.l q)]))
   |none=>none
 |_=>none
def d9w:Fam:=⟨Pt,λp=>[ID p],λp=>p.l.length<=100000/\∀c∈p.l,AD .u8 c.e,λp=>.mp (.ints [.i64,.u8]) false (EF p.l) (λq=>[.bool (EF p.l q)])⟩
def f1m(p:Pt):Nat->Option Inv
 |3=>some {β:=Nat,ok:=λi=>i<=p.l.length,st:=λi=>⟨[⟨13,none,.int .i64 i⟩,⟨12,none,.int .i64 p.l.length⟩,⟨11,none,.sl 3 p.l.length (DU p.l) none⟩,⟨3,none,.omp 1⟩,⟨2,none,.con (.map none)⟩],[.cells 29 [.int .i64 p.W,.int .i64 p.H,.sl 3 p.l.length (DU p.l) none],.map (.ints [.i64,.u8]) false (EF (p.l.take i)) (λ_=>[.bool true])]⟩,μ:=λi=>p.l.length-i}
 |_=>none
theorem b7c{l:List Cr}{i:Nat}(hi:i<l.length)(q:List Int):(decide (q=[(l.getD i d0).c,(l.getD i d0).e])||EF (l.take i) q)=EF (l.take (i+1)) q:=by
 have:l.take (i+1)=l.take i++[l.getD i d0]:=by rw[Mb];congr 1;simp[hi]
 unfold EF;rw[this,List.any_append];simp[FS,Bool.or_comm]
theorem f2j:PS 160 b4h:=by
 refine con [] Dz d9w f1m b4h ?_ ?_ Tryz.func160 Dy Dy Dy ?_
 .intro args pre s h hp;unfold b4h at h;split at h
  .split at h
   .rename_i a p hx;cases h;exact Cx
   .cases h
  .cases h
 .exact By
 .rintro(p:Pt) hp;replace hp:p.l.length<=100000/\∀c∈p.l,AD .u8 c.e:=hp;refine X0a _ ?_;(repeat' first|constructor|intro h)<;>refine Lm ?_
  refine⟨(0:Nat),Jj _,?_,?_⟩
  .refine X0a _ ?_;(repeat' first|constructor|intro h)<;>refine Lm ?_
   all_goals first|exact A6|(intro q;first|rfl|(intro f;exact absurd f Dz))|skip
  .intro i d;replace d:i<=p.l.length:=d;refine X0a _ ?_;(repeat' first|constructor|intro h)<;>refine Lm ?_
   all_goals(first
    |(have q:i<p.l.length:=by simpa using h
      first
      |exact Ak
      |refine⟨i+1,q,Dx,?_⟩)
    |(have q:p.l.length<=i:=by simpa using h
      intro u;first
      |(rw[L9 q];done)
      |(rw[L9 q];intro w;rw[w]))
    |skip)
   all_goals refine X0a _ ?_;(repeat' first|constructor|intro h)<;>refine Lm ?_
   all_goals first|exact Aw|(intro u;have q:i<p.l.length:=E4;first|exact b7c q u|(intro _;cases decide (u=[(p.l.getD (i:Int).toNat d0).c,(p.l.getD (i:Int).toNat d0).e])<;>rfl))|skip
def GX(a b:Mv):Mv:=⟨Qf a.t a.x a.y b.t b.x b.y,Wa a.t a.x a.y b.t b.x b.y,Uv a.t a.x a.y b.t b.x b.y⟩
def El(k C:Int):Mv:=⟨keep (FV k C) (Ob k),keep (FV k C) (Qt k C),keep (FV k C) (RY k C)⟩
def CR(W H i e:Int):List Int:=[EA W H i e,ET W H i e]
def IG(W H:Int)(has:List Int->Bool)(m:Mv)(i e:Int):Mv:=
 bif has (CR W H i e)then GX (El (Tt W H (EA W H i e) (ET W H i e)) (UZ W H (EA W H i e) (ET W H i e))) m else m
def c0f:AK
 | [.int .i64 i,.int .u8 e,.rel 3 1 g 0 0,.rel 1 1 b 0 0,.rel 1 1 c 0 0]=>match g 0,b 0,c 0 with
   | [.int .i64 W,.int .i64 H,_],[.mp (.ints [.i64,.u8]) false a val],[.sl 3 m h _]=>
     some ((0<=e/\0<=i/\i<m)/\h=AE.row (AE.lst m h)/\(∀q,val q=[.bool (a q)])/\(∀x∈AE.lst m h,0<=x.t/\x.t<=255),
      .agg (AE.sv (IG W H a ((AE.lst m h).getD i.toNat AE.d) i e)))
   |_,_,_=>none
 |_=>none
def d1c:Fam:=⟨(Int×Int×Int×Int)×SV×(List Int->Bool)×List Mv×Option Nat,
 λ((i,e,W,H),b,a,L,c)=>[.int .i64 i,.int .u8 e,.rel 3 1 (λ_=>[.int .i64 W,.int .i64 H,b]) 0 0,.rel 1 1 (λ_=>[.mp (.ints [.i64,.u8]) false a (λq=>[.bool (a q)])]) 0 0,.rel 1 1 (λ_=>[.sl 3 L.length (AE.row L) c]) 0 0],
 λ((i,e,_,_),_,_,L,_)=>(0<=e/\0<=i/\i<L.length)/\∀x∈L,0<=x.t/\x.t<=255,
 λ((i,e,W,H),_,a,L,_)=>.agg (AE.sv (IG W H a (L.getD i.toNat AE.d) i e))⟩
theorem f96:PS 161 c0f:=by
 refine con [(157,Sy),(162,b1r),(55,d6q),(83,VB)] (by simpa using⟨d97,d0t,pMvOf,f8h⟩) d1c (λ_ _=>none) c0f ?_ ?_ Tryz.func161 Dy Dy Dy ?_
 .intro args pre s h b;unfold c0f at h;split at h
  .split at h
   .rename_i i e g g2 g3 _ _ _ W H f a val m l c n o r;cases h;obtain⟨u,v,w,y⟩:=b;have z:val=λq=>[.bool (a q)]:=Nh w;refine⟨((i,e,W,H),f,a,AE.lst m l,c),?_,⟨by rw[RT.lst_length];exact u,y⟩,rfl⟩;simp only[d1c,BT,SV.le2,SV.le1,SV.le0,Kp,Nt,and_true,RT.lst_length];refine⟨λj k=> ?_,λj k=> ?_,λj k=> ?_⟩
    .rw[show j=0 from Dx,n]
    .rw[show j=0 from Dx,o,z]
    .rw[show j=0 from Dx,r,<-v]
   .cases h
  .cases h
 .exact Cd
 .rintro⟨⟨i,e,W,H⟩,f,a,L,c⟩ b;replace b:(0<=e/\0<=i/\i<L.length)/\∀x∈L,0<=x.t/\x.t<=255:=b;refine X0a _ ?_;(repeat' first|constructor|intro h)<;>refine Lm ?_
  all_goals(have A:0<=ET W H i e:=by(unfold ET;split<;>omega))
  all_goals(first
   |exact b.1.1
   |exact b.1.2
   |exact A
   |(intro q;rw[q];rfl)
   |(have q:a (CR W H i e)=false:=by simpa[CR]using h
     unfold IG;rw[q,cond_false])
   |(have q:a (CR W H i e)=true:=by simpa[CR]using h
     unfold IG;rw[q,cond_true];rfl)
   |(have m:L.getD i.toNat AE.d∈L:=by simp[show i.toNat<L.length from Dx]
     refine⟨?_,b.2 _ m⟩;unfold keep Ob;split<;>omega)
   |(have m:L.getD i.toNat AE.d∈L:=by simp[J5,show i.toNat<L.length from Dx]
     refine⟨?_,b.2 _ m⟩;unfold keep Ob;grind)
   |skip)
theorem nv_le{W H i e:Int}(hs:AP W H=0)(c:0<=e)(h:AU W H i e=0):0<=AF W H i e/\AF W H i e<4*(W*H):=by
 have b:=b3f h;have hq:=d2p (X:=BW W H i) (Y:=BX W H i) (TL W H i).1 c;unfold AU at h;rw[J7 b]at h;split at h
 .rename_i d;unfold AF;rw[J7 b,J7 d];unfold QO;rw[J7 h];unfold LQ at h;rw[J7 hs]at h;split at h
  .rename_i a;have:=f8d (X:=JE (BW W H i) (BX W H i) (BZ W H i) e) (Y:=JG (BW W H i) (BX W H i) (BZ W H i) e) hs a.2.1 a.2.2.1 a.2.2.2.1 a.2.2.2.2;omega
  .cases h
 .cases h
theorem c6d{t x y u z w:Int}(b:0<=t)(c:0<=u):0<=Qf t x y u z w/\Qf t x y u z w<=255:=by
 unfold Qf keep;split
 .rename_i h;unfold Gl at h;split at h
  .rename_i a;have:=cT_le b (TK a.1).1 c (TK a.2).1;omega
  .cases h
 .omega
theorem d71(k C:Int):0<=(El k C).t/\(El k C).t<=255:=by simp only[El];unfold keep Ob;grind
theorem c24{W H:Int}{has:List Int->Bool}{m:Mv}{i e:Int}(a:0<=m.t/\m.t<=255):0<=(IG W H has m i e).t/\(IG W H has m i e).t<=255:=by
 unfold IG;cases has (CR W H i e)
 .exact a
 .exact c6d (d71 _ _).1 a.1
theorem b2r{l:List Bool}:∀{n:Nat},n<l.length->l.getD n false=false->(l.set n true).count false+1=l.count false:=by
 induction l with
 |nil=>intro n h;simp at h
 |cons b l c=>
  intro n h a;match n with
  |0=>
   simp at a;subst a;simp
  |n+1=>
   have:=c (n:=n) E4 (by simpa using a);cases b<;>simp[]<;>omega
theorem b3k{l:List Mv}{n:Nat}{m:Mv}{q:Mv->Prop}(a:∀x∈l,q x)(b:q m):∀x∈l.set n m,q x:=by
 intro x hx;rcases Ly hx with hx|rfl
 .exact a x hx
 .exact b
def vM(m:Mv):Prop:=0<=m.t/\DP m.t m.x m.y=0
def vC(c:Cl):Prop:=(-4096<=c.x/\c.x<=4096)/\(-4096<=c.y/\c.y<=4096)/\0<=c.q/\c.q<=3
def DX(m:Mv)(c:Cl):Cl:=⟨LD m.t m.x m.y c.x c.y,LU m.t m.x m.y c.x c.y,KN m.t c.q⟩
def AV(c:Cl)(e:Int):Cl:=⟨EI c.q e+c.x,EK c.q e+c.y,EM c.q e⟩
theorem FT{m:Mv}(h:vM m):m.t=0\/m.t=1\/m.t=2\/m.t=3\/m.t=4\/m.t=5\/m.t=6\/m.t=7:=by
 obtain⟨h0,a⟩:=h;unfold DP at a;split at a
 .omega
 .omega
theorem PX{m:Mv}(h:vM m):(-16384<=m.x/\m.x<=16384)/\(-16384<=m.y/\m.y<=16384)/\(m.x+m.y)%2=0:=by
 obtain⟨h0,a⟩:=h;unfold DP at a;split at a
 .omega
 .omega
theorem EW{q:Int}(h:0<=q/\q<=3):q=0\/q=1\/q=2\/q=3:=Dx
theorem GS{e:Int}(h:0<=e/\e<3):e=0\/e=1\/e=2:=Dx
def AM(t:Int)(a b:Int):Int×Int:=if t=0 then(a,b)else if t=1 then(-b,a)else if t=2 then(-a,-b)else if t=3 then(b,-a)else if t=4 then(-a,b)else if t=5 then(-b,-a)else if t=6 then(a,-b)else(b,a)
theorem b46{t a b:Int}(h:t=0\/t=1\/t=2\/t=3\/t=4\/t=5\/t=6\/t=7):JP t a b=(AM t a b).1/\JT t a b=(AM t a b).2:=by rcases h with rfl|rfl|rfl|rfl|rfl|rfl|rfl|rfl<;>simp[JP,JT,AM,tA,tB,tC,tD,tb]
theorem po_eq{m:Mv}{a b:Int}(h:vM m)(ha: -9000<=a/\a<=9000)(hb: -9000<=b/\b<=9000):Nx m.t m.x m.y a b=(AM m.t a b).1+2*m.x/\NW m.t m.x m.y a b=(AM m.t a b).2+2*m.y:=by
 have h1:=PX h;have c:=@b46 m.t a b (FT h);have e:Pw m.t m.x m.y a b=0:=by unfold Pw;rw[J7 ⟨h.2,by unfold LH;rw[if_pos];omega⟩,if_pos];rw[c.1,c.2];unfold LH;rw[J7];rcases FT h with e|e|e|e|e|e|e|e<;>simp only[AM,e]<;>simp<;>omega
 unfold Nx NW keep;rw[J7 e,J7 e,c.1,c.2];exact⟨rfl,rfl⟩
theorem c98{p:Int}(h:p%2=1):Qb p=(p-1)/2:=by unfold Qb;rw[h,Int.tdiv_eq_ediv];split<;>omega
def sq(t:Int)(X Y:Int):Int×Int:=if t=0 then(X,Y)else if t=1 then(-Y-1,X)else if t=2 then(-X-1,-Y-1)else if t=3 then(Y,-X-1)else if t=4 then(-X-1,Y)else if t=5 then(-Y-1,-X-1)else if t=6 then(X,-Y-1)else(Y,X)
theorem mv_sq{m:Mv}{X Y:Int}(h:vM m)(hx: -4200<=X/\X<=4200)(hy: -4200<=Y/\Y<=4200):LD m.t m.x m.y X Y=(sq m.t X Y).1+m.x/\LU m.t m.x m.y X Y=(sq m.t X Y).2+m.y:=by have a:=@po_eq m (2*X+1) (2*Y+1) h Dx Dx;unfold LD LU;rw[a.1,a.2];rcases FT h with e|e|e|e|e|e|e|e<;>simp only[AM,sq,e]<;>simp<;>(rw[c98 Dx,c98 Dx];omega)
def tq(t:Int)(q:Int):Int:=tb (if t=0 then [0,1,2,3]else if t=1 then [1,2,3,0]else if t=2 then [2,3,0,1]else if t=3 then [3,0,1,2]else if t=4 then [0,3,2,1]else if t=5 then [1,0,3,2]else if t=6 then [2,1,0,3]else [3,2,1,0]) q.toNat
theorem mvQ_tq{t q:Int}(h:t=0\/t=1\/t=2\/t=3\/t=4\/t=5\/t=6\/t=7)(a:0<=q/\q<=3):KN t q=tq t q:=by rcases h with rfl|rfl|rfl|rfl|rfl|rfl|rfl|rfl<;>rcases EW a with rfl|rfl|rfl|rfl<;>rfl
theorem Il{m:Mv}{c:Cl}(h:vM m)(a:(-4200<=c.x/\c.x<=4200)/\(-4200<=c.y/\c.y<=4200)/\0<=c.q/\c.q<=3):DX m c=⟨(sq m.t c.x c.y).1+m.x,(sq m.t c.x c.y).2+m.y,tq m.t c.q⟩:=by have b:=mv_sq h a.1 a.2.1;unfold DX;rw[b.1,b.2,mvQ_tq (FT h) a.2.2]
theorem YN{c:Cl}(h:vC c):(-4200<=c.x/\c.x<=4200)/\(-4200<=c.y/\c.y<=4200)/\0<=c.q/\c.q<=3:=by unfold vC at h;omega
theorem Cl.ext'{a b:Cl}(h1:a.x=b.x)(h2:a.y=b.y)(h3:a.q=b.q):a=b:=I3
theorem d11{m:Mv}{c d:Cl}(h:vM m)(g:vC c)(i:vC d)(e:DX m c=DX m d):c=d:=by
 rw[Il h (YN g),Il h (YN i)]at e;simp only[Cl.mk.injEq]at e;obtain⟨j,k,f⟩:=e;have l:c.q=d.q:=by rcases FT h with e|e|e|e|e|e|e|e<;>simp only[e,tq]at f<;>rcases EW g.2.2 with a|a|a|a<;>rcases EW i.2.2 with b|b|b|b<;>rw[a,b]at f⊢ <;>revert f<;>decide
 refine Cl.ext' ?_ ?_ l<;>(rcases FT h with e|e|e|e|e|e|e|e<;>simp only[e,sq]at j k<;>simp at j k<;>omega)
theorem f17{a b:Mv}(h:Gl a.t a.x a.y b.t b.x b.y=0):DP a.t a.x a.y=0/\DP b.t b.x b.y=0/\MD (cT a.t b.t) (JP b.t a.x a.y+b.x) (JT b.t a.x a.y+b.y)=0:=by
 unfold Gl at h;split at h
 .rename_i e;exact⟨e.1,e.2,h⟩
 .cases h
def tt(t u:Int):Int:=tb (tbl u.toNat) t.toNat
where tbl:Nat->List Int
 |0=>[0,1,2,3,4,5,6,7]
 |1=>[1,2,3,0,5,6,7,4]
 |2=>[2,3,0,1,6,7,4,5]
 |3=>[3,0,1,2,7,4,5,6]
 |4=>[4,7,6,5,0,3,2,1]
 |5=>[5,4,7,6,1,0,3,2]
 |6=>[6,5,4,7,2,1,0,3]
 |_=>[7,6,5,4,3,2,1,0]
theorem f7a{t u:Int}(h:t=0\/t=1\/t=2\/t=3\/t=4\/t=5\/t=6\/t=7)(k:u=0\/u=1\/u=2\/u=3\/u=4\/u=5\/u=6\/u=7):cT t u=tt t u:=by rcases h with rfl|rfl|rfl|rfl|rfl|rfl|rfl|rfl<;>rcases k with rfl|rfl|rfl|rfl|rfl|rfl|rfl|rfl<;>rfl
theorem Vk{a b:Mv}(j:0<=a.t)(k:0<=b.t)(h:Gl a.t a.x a.y b.t b.x b.y=0):GX a b=⟨tt a.t b.t,(AM b.t a.x a.y).1+b.x,(AM b.t a.x a.y).2+b.y⟩/\vM a/\vM b/\vM (GX a b):=by
 obtain⟨l,m,f⟩:=f17 h;have g:vM a:=⟨j,l⟩
 have d:vM b:=⟨k,m⟩
 have e:=@b46 b.t a.x a.y (FT d);have n:GX a b=⟨cT a.t b.t,JP b.t a.x a.y+b.x,JT b.t a.x a.y+b.y⟩:=by simp[GX,Qf,Wa,Uv,keep,h]
 rw[n];have i:=f7a (FT g) (FT d);refine⟨by rw[e.1,e.2,i],g,d,?_,?_⟩
 .show 0<=cT a.t b.t;rw[i];rcases FT g with e|e|e|e|e|e|e|e<;>rcases FT d with c|c|c|c|c|c|c|c<;>rw[e,c]<;>decide
 .unfold MD at f;split at f
  .assumption
  .cases f
theorem f23{t q:Int}(h:t=0\/t=1\/t=2\/t=3\/t=4\/t=5\/t=6\/t=7)(a:0<=q/\q<=3):0<=tq t q/\tq t q<=3:=by rcases h with rfl|rfl|rfl|rfl|rfl|rfl|rfl|rfl<;>rcases EW a with rfl|rfl|rfl|rfl<;>decide
theorem tq_tt{t u q:Int}(h:t=0\/t=1\/t=2\/t=3\/t=4\/t=5\/t=6\/t=7)(k:u=0\/u=1\/u=2\/u=3\/u=4\/u=5\/u=6\/u=7)(a:0<=q/\q<=3):tq (tt t u) q=tq u (tq t q):=by rcases h with rfl|rfl|rfl|rfl|rfl|rfl|rfl|rfl<;>rcases k with rfl|rfl|rfl|rfl|rfl|rfl|rfl|rfl<;>rcases EW a with rfl|rfl|rfl|rfl<;>decide
theorem sq_tt{t u X Y x y:Int}(h:t=0\/t=1\/t=2\/t=3\/t=4\/t=5\/t=6\/t=7)(k:u=0\/u=1\/u=2\/u=3\/u=4\/u=5\/u=6\/u=7):(sq (tt t u) X Y).1+(AM u x y).1=(sq u ((sq t X Y).1+x) ((sq t X Y).2+y)).1/\(sq (tt t u) X Y).2+(AM u x y).2=(sq u ((sq t X Y).1+x) ((sq t X Y).2+y)).2:=by rcases h with rfl|rfl|rfl|rfl|rfl|rfl|rfl|rfl<;>rcases k with rfl|rfl|rfl|rfl|rfl|rfl|rfl|rfl<;>(simp[sq,tt,tt.tbl,tb,AM];try omega)
theorem b9b{a b:Mv}{c:Cl}(i:0<=a.t)(j:0<=b.t)(h:Gl a.t a.x a.y b.t b.x b.y=0)(d:vC c)(k:vC (DX a c)):DX (GX a b) c=DX b (DX a c):=by obtain⟨e,f,g,l⟩:=Vk i j h;rw[Il g (YN k),Il l (YN d),Il f (YN d),e];simp only[Cl.mk.injEq];have:=@sq_tt a.t b.t c.x c.y a.x a.y (FT f) (FT g);refine⟨Dx,Dx,tq_tt (FT f) (FT g) d.2.2⟩
theorem f78{C:Int}(h: -4096<=C/\C<=4096):El 1 C=⟨4,2*C,0⟩/\vM ⟨4,2*C,0⟩:=by
 refine⟨?_,(by show (0:Int)<=4;omega),?_⟩
 .simp[El,keep,FV,h,Ob,Qt,RY]
 .exact Ce
theorem g0k{C:Int}(h: -4096<=C/\C<=4096):El 2 C=⟨6,0,2*C⟩/\vM ⟨6,0,2*C⟩:=by
 refine⟨?_,(by show (0:Int)<=6;omega),?_⟩
 .simp[El,keep,FV,h,Ob,Qt,RY]
 .exact Ce
theorem ref_u{C:Int}(h: -4096<=C/\C<=4096):El 3 C=⟨5,C,C⟩/\vM ⟨5,C,C⟩:=by
 refine⟨?_,(by show (0:Int)<=5;omega),?_⟩
 .simp[El,keep,FV,h,Ob,Qt,RY]
 .exact Ce
theorem ref_d{C:Int}(h: -4096<=C/\C<=4096):El 4 C=⟨7,-C,C⟩/\vM ⟨7,-C,C⟩:=by
 refine⟨?_,(by show (0:Int)<=7;omega),?_⟩
 .simp[El,keep,FV,h,Ob,Qt,RY]
 .exact Ce
theorem b87{c:Cl}{e:Int}(b:0<=e/\e<3)(a:(-300<=c.x/\c.x<=300)/\(-300<=c.y/\c.y<=300)/\0<=c.q/\c.q<=3):
 vM (El (DB c.q e) (DF c.x c.y c.q e))/\DX (El (DB c.q e) (DF c.x c.y c.q e)) c=AV c e/\DX (El (DB c.q e) (DF c.x c.y c.q e)) (AV c e)=c/\
 ((-700<=(El (DB c.q e) (DF c.x c.y c.q e)).x/\(El (DB c.q e) (DF c.x c.y c.q e)).x<=700)/\ -700<=(El (DB c.q e) (DF c.x c.y c.q e)).y/\(El (DB c.q e) (DF c.x c.y c.q e)).y<=700):=by
 obtain⟨X,Y,Q⟩:=c;simp only at a;rcases EW a.2.2 with rfl|rfl|rfl|rfl<;>rcases GS b with rfl|rfl|rfl<;>
 .simp[DB,DF,Hl,JU,tb];first
   |obtain⟨r,vm⟩:=@f78 X Dx
    rw[r];refine⟨vm,?_,?_,?_⟩<;>first|exact B6|(rw[Il vm Fm];simp[AV,sq,tq,EI,EK,EM,tb];done)|exact Aa
   |obtain⟨r,vm⟩:=@f78 (X+1) Dx
    rw[r];refine⟨vm,?_,?_,?_⟩<;>first|exact B6|(rw[Il vm Fm];simp[AV,sq,tq,EI,EK,EM,tb];done)|exact Aa
   |obtain⟨r,vm⟩:=@g0k Y Dx
    rw[r];refine⟨vm,?_,?_,?_⟩<;>first|exact B6|(rw[Il vm Fm];simp[AV,sq,tq,EI,EK,EM,tb];done)|exact Aa
   |obtain⟨r,vm⟩:=@g0k (Y+1) Dx
    rw[r];refine⟨vm,?_,?_,?_⟩<;>first|exact B6|(rw[Il vm Fm];simp[AV,sq,tq,EI,EK,EM,tb];done)|exact Aa
   |obtain⟨r,vm⟩:=@ref_u (X+Y+1) Dx
    rw[r];refine⟨vm,?_,?_,?_⟩<;>first|exact B6|(rw[Il vm Fm];simp[AV,sq,tq,EI,EK,EM,tb];done)|exact Aa
   |obtain⟨r,vm⟩:=@ref_d (Y-X) Dx
    rw[r];refine⟨vm,?_,?_,?_⟩<;>first|exact B6|(rw[Il vm Fm];simp[AV,sq,tq,EI,EK,EM,tb];done)|exact Aa
   |skip
structure BS where
 out:List Mv
 kn:List Bool
 wt:List Int
def Ko(W H:Int)(has:List Int->Bool)(s:BS)(i e:Int):Option BS:=
 if AU W H i e=0 then
  let n:=(AF W H i e).toNat
  let m:=IG W H has (s.out.getD i.toNat AE.d) i e
  let a:BS:=bif s.kn.getD n false then s else⟨s.out.set n m,s.kn.set n true,s.wt++[AF W H i e]⟩
  if a.out.getD n AE.d=m then some a else none
 else some s
def ML(W H:Int)(has:List Int->Bool)(i:Int):List Int->BS->Option BS
 | [],s=>some s
 |e::l,s=>(Ko W H has s i e).bind (ML W H has i l)
def II(W H:Int)(has:List Int->Bool):Nat->BS->Option (List Mv)
 |0,s=>match s.wt with
  | []=>some s.out
  |_::_=>none
 |f+1,s=>match s.wt with
  | []=>some s.out
  |i::r=>(ML W H has i [0,1,2] ⟨s.out,s.kn,r⟩).bind (II W H has f)
def FO(p:Pt):Nat:=(4*p.W*p.H).toNat
def FJ(n:Nat):BS:=⟨List.replicate n AE.d,(List.replicate n false).set 0 true,[0]⟩
def NF(p:Pt):Option (List Mv):=II p.W p.H (EF p.l) (2*FO p+1) (FJ (FO p))
def IX(p:Pt):Int:=if(NF p).isSome then 0 else 11
def BA(p:Pt):List Mv:=(NF p).getD []
def hRel:HK:=λb own=>match b,own with
 | [x],[]=>match NS x with
   |some (a,p)=>some ⟨a/\(∀c∈p.l,AD .u8 c.e)/\BG p=0,.tup [.osl 0,.int .i64 (IX p)],[.row 31 3 (BA p).length (AE.row (BA p)) none],[]⟩
   |none=>none
 |_,_=>none
def FRel:FamH:=⟨Pt,λp=>[ID p],λ_=>[],λp=>p.l.length<=100000/\(∀c∈p.l,AD .u8 c.e)/\BG p=0,λp=>.tup [.osl 0,.int .i64 (IX p)],λp=>[.row 31 3 (BA p).length (AE.row (BA p)) none],[]⟩
def c00(t:Nat)(T:TypeId)(sz:Nat)(st:St):List Ghost:=match CK t st.ρ with
 |some e=>match e.sv with
  |.osl k=>[.sel [k]]
  |_=>[.nil t T sz,.sel [st.own.length]]
 |none=>[]
def KC(s:BS):Nat:=s.kn.count false
def lens(p:Pt)(s:BS):Prop:=s.out.length=FO p/\s.kn.length=FO p/\(∀i∈s.wt,0<=i/\i<FO p)/\∀m∈s.out,0<=m.t/\m.t<=255
def ownR(p:Pt)(s:BS):List Blk:=[.cells 29 [.int .i64 p.W,.int .i64 p.H,.sl 3 p.l.length (DU p.l) none],.cells 249 [.mp (.ints [.i64,.u8]) false (EF p.l) (λq=>[.bool (EF p.l q)])],.row 31 3 s.out.length (AE.row s.out) none,.cells 53 [.osl 2],.row 4 1 s.kn.length (FY.row s.kn) none,.row 3 1 s.wt.length (AC.row s.wt) none]
def IRel(p:Pt):Nat->Option Inv
 |7=>some {β:=BS×Nat,ok:=λ(s,f)=>lens p s/\NF p=II p.W p.H (EF p.l) f s/\2*KC s+s.wt.length<=f/\f<=2*FO p+1,st:=λ(s,_)=>⟨[⟨8,none,.osl 5⟩,⟨7,none,.clo 161 [.own 0 0,.own 1 0,.own 3 0]⟩,⟨6,none,.osl 4⟩,⟨5,none,.own 3 0⟩,⟨3,none,.int .i64 0⟩,⟨2,none,.con (.slice none 0 0)⟩,⟨1,none,.own 0 0⟩],ownR p s⟩,μ:=λ(_,f)=>f,sub:=λ(_,f)=>some fun
   |11=>some {β:=BS×Nat×Int,ok:=λ(s,e,i)=>e<=3/\lens p s/\(0<=i/\i<FO p)/\NF p=(ML p.W p.H (EF p.l) i ([0,1,2].drop e) s).bind (II p.W p.H (EF p.l) (f-1))/\2*KC s+s.wt.length<=f-1/\0<f/\f<=2*FO p+1,st:=λ(s,e,i)=>⟨[⟨35,none,.int .u8 e⟩,⟨9,none,.int .i64 i⟩,⟨8,none,.osl 5⟩,⟨7,none,.clo 161 [.own 0 0,.own 1 0,.own 3 0]⟩,⟨6,none,.osl 4⟩,⟨5,none,.own 3 0⟩,⟨3,none,.int .i64 0⟩,⟨2,none,.con (.slice none 0 0)⟩,⟨1,none,.own 0 0⟩],ownR p s⟩,μ:=λ(_,e,_)=>3-e}
   |_=>none}
 |_=>none
theorem c0i{W H:Int}{has:List Int->Bool}{f:Nat}{s:BS}(h:s.wt=[]):II W H has f s=some s.out:=by cases f<;>simp[II,h]
theorem b8t{W H:Int}{has:List Int->Bool}{f:Nat}{s:BS}{i:Int}{r:List Int}(h:s.wt=i::r):II W H has (f+1) s=(ML W H has i [0,1,2] ⟨s.out,s.kn,r⟩).bind (II W H has f):=by simp[II,h]
theorem b8c{W H:Int}{has:List Int->Bool}{i:Int}{e:Nat}{s:BS}(h:e<3):ML W H has i ([0,1,2].drop e) s=(Ko W H has s i e).bind (ML W H has i ([0,1,2].drop (e+1))):=by have:e=0\/e=1\/e=2:=Dx;rcases this with rfl|rfl|rfl<;>rfl
theorem mvEq(a b:Mv):(decide (a.t=b.t)&&(decide (a.x=b.x)&&(decide (a.y=b.y)&&true)))=decide (a=b):=by cases a;cases b;simp[Bool.decide_and]
theorem b22{W H:Int}{has:List Int->Bool}{s:BS}{i e:Int}(h:AU W H i e=0)(a:s.kn.getD (AF W H i e).toNat false=true):
 Ko W H has s i e=if s.out.getD (AF W H i e).toNat AE.d=IG W H has (s.out.getD i.toNat AE.d) i e then some s else none:=by
 simp only[Ko,J7 h,a,N1]
theorem c2a{W H:Int}{has:List Int->Bool}{s:BS}{i e:Int}(h:AU W H i e=0)(a:s.kn.getD (AF W H i e).toNat false=false)(b:(AF W H i e).toNat<s.out.length):
 Ko W H has s i e=some ⟨s.out.set (AF W H i e).toNat (IG W H has (s.out.getD i.toNat AE.d) i e),s.kn.set (AF W H i e).toNat true,s.wt++[AF W H i e]⟩:=by
 simp only[Ko,J7 h,a,cond_false];rw[J7];rw[J5,Ki b];rfl
theorem WW{α:Type}(n i:Nat)(d:α):(List.replicate n d).getD i d=d:=by rw[J5,List.getElem?_replicate];split<;>rfl
theorem OG(n i:Nat)(h:0<n):((List.replicate n false).set 0 true).getD i false=decide (i=0):=by
 match n,i with
 |n+1,0=>rfl
 |n+1,i+1=>simpa[List.replicate_succ]using WW n i false
theorem b2s{p:Pt}(h:AP p.W p.H=0):4<=FO p/\FO p<=1024/\DS p.W p.H=FO p:=by have z:=QP h;unfold FO DS;rw[J7 h];omega
theorem pRel:HS 117 hRel:=by
 refine FU {l:=[(160,b4h),(103,VN),(110,Tu),(161,c0f)],G:={gx:=c00 2 31 3}} ⟨by simpa using⟨f2j,d36,b1g,f96⟩,Dz,Dz⟩ FRel IRel hRel ?_ ?_ ?_ Tryz.func117 Dy Dy Dy ?_
 .intro args own r h u;unfold hRel at h;split at h
  .split at h
   .rename_i a p hx;cases h;exact⟨p,⟨(Nl hx u.1).1,Ja⟩,rfl,Ja,⟨(Nl hx u.1).2,u.2⟩,rfl,rfl,rfl⟩
   .cases h
  .cases h
 .exact By
 .intro i;exact Jj _
 .rintro(p:Pt) μ u;replace u:p.l.length<=100000/\(∀c∈p.l,AD .u8 c.e)/\BG p=0:=u;have hs:=(FI u.2.2).1;obtain⟨n1,n2,M⟩:=b2s hs;refine X0a _ ?_;(repeat' first|constructor|intro h)<;>refine Lm ?_
  all_goals(try simp only[M,CI])
  all_goals(first
   |exact⟨⟨Do _,u.1⟩,u.2.1⟩
   |omega
   |exact At
   |skip)
  refine⟨(FJ (FO p),2*FO p+1),⟨⟨?_,?_,?_,?_⟩,rfl,?_,Jf _⟩,?_,?_⟩
  .simp[FJ]
  .simp[FJ]
  .intro i o;simp[FJ]at o;omega
  .intro m N;have:m=AE.d:=(List.mem_replicate.1 N).2;rw[this];decide
  .have:KC (FJ (FO p))<=FO p:=by
    unfold KC;refine Kz List.count_le_length ?_;simp[FJ]
   show 2*KC (FJ (FO p))+1<=_;omega
  .refine X0a _ ?_;(repeat' first|constructor|intro h)<;>refine Lm ?_
   all_goals(first
    |exact A6
    |exact Be
    |(simp[FJ];done)
    |(intro i o;show _=AE.sv (List.getD _ i AE.d);rw[show (FJ (FO p)).out=List.replicate (FO p) AE.d from rfl,WW];rfl)
    |(intro i o
      show Bl (decide (i=0)) _ _=FY.sv (List.getD _ i false);rw[show (FJ (FO p)).kn=(List.replicate (FO p) false).set 0 true from rfl,OG _ _ Dx];generalize decide (i=0)=b;cases b<;>rfl)
    |(intro i o;(have:i=0:=Dx);subst this;rfl)
    |skip)
  .rintro⟨s,f⟩ ⟨k,hr,v,y⟩;replace k:lens p s:=k;replace hr:NF p=II p.W p.H (EF p.l) f s:=hr;replace v:2*KC s+s.wt.length<=f:=v;replace y:f<=2*FO p+1:=y;refine X0a _ ?_;(repeat' first|constructor|intro h)<;>refine Lm ?_
   all_goals(first
    |(have C:0<s.wt.length:=by simpa using h
      first
      |omega
      |exact C
      |(obtain⟨i,r,A⟩:∃i r,s.wt=i::r:=by(cases e:s.wt with|nil=>(rw[e]at C;exact absurd C E1)|cons i r=>exact⟨i,r,rfl⟩)
        have o:=k.2.2.1 i (by rw[A];simp);have ba:s.wt.length=r.length+1:=by rw[A];rfl
        obtain⟨g,rfl⟩:∃g,f=g+1:=⟨f-1,Dx⟩
        refine⟨((⟨s.out,s.kn,r⟩:BS),(0:Nat),i),⟨Jj 3,⟨k.1,k.2.1,λx hx=>k.2.2.1 x (by rw[A];exact Ju _ hx),k.2.2.2⟩,o,hr.trans (b8t A),?_,Nat.succ_pos g,?_⟩,?_,?_⟩))
    |(have C:s.wt=[]:=by(have:s.wt.length=0:=E4);exact Kv this
      have F:NF p=some s.out:=by rw[hr,c0i C]
      first
      |(unfold BA;rw[F];rfl)
      |(intro i o;unfold BA;rw[F];rfl)
      |(unfold IX;rw[F];rfl))
    |skip)
   .show 2*KC s+r.length<=g;omega
   .show g+1<=_;omega
   .refine X0a _ ?_;(repeat' first|constructor|intro h)<;>refine Lm ?_
    all_goals(first
     |exact A6
     |exact Be
     |omega
     |(rw[A];rfl)
     |(intro j I;rw[A];exact d8t AC i r j)
     |skip)
   .rintro⟨s,e,i⟩ ⟨J,k,o,hr,v,-,y⟩;have:g+1-1=g:=rfl;replace J:e<=3:=J;replace k:lens p s:=k;replace o:0<=i/\i<FO p:=o;replace hr:NF p=(ML p.W p.H (EF p.l) i ([0,1,2].drop e) s).bind (II p.W p.H (EF p.l) g):=hr;replace v:2*KC s+s.wt.length<=g:=v;replace y:g+1<=2*FO p+1:=y;have K:=@nv_le p.W p.H i e hs Dx;have hc4:(FO p:Int)=4*(p.W*p.H):=by
     have z:=QP hs;unfold FO;omega
    have O:=k.1;have P:=k.2.1;refine X0a _ ?_;(repeat' first|constructor|intro h)<;>refine Lm ?_
    all_goals(try simp only[RT.lst_row]at*)
    all_goals(first
     |omega
     |(have e3:(e:Int)<3:=Kj ‹decide (_<(3:Int))=true›
       simp only[AD];omega)
     |exact⟨⟨Dx,o.1,Dx⟩,rfl,λ_=>rfl,k.2.2.2⟩
     |(have q:AU p.W p.H i e=0:=by simpa using(by assumption:(!decide (AU p.W p.H i e=0))=false)
       have Q:=K q;first
       |(constructor<;>omega)
       |omega
       |(show _<_;omega)
       |(refine⟨Dx,?_⟩;show (_+1)*8<=_;omega))
     |skip)
    all_goals(first
     |exact⟨⟨Dx,o.1,Dx⟩,Ja,λ_=>Ja,k.2.2.2⟩
     |(have e3:e=3:=by(have q:¬(e:Int)<3:=Lu ‹decide (_<(3:Int))=false›;omega)
       subst e3;refine⟨(s,g),⟨k,hr,v,by show g<=_;omega⟩,N7 g,?_⟩)
     |(have e3:e<3:=by(have q:(e:Int)<3:=Kj ‹decide (_<(3:Int))=true›;omega)
       have q:¬AU p.W p.H i e=0:=by simpa using ‹(!decide (AU p.W p.H i e=0))=true›
       have h1:Ko p.W p.H (EF p.l) s i e=some s:=by unfold Ko;rw[if_neg q]
       refine⟨(s,e+1,i),⟨e3,k,o,He,v,Nat.succ_pos g,y⟩,Gj,?_⟩)
     |(exfalso;simp at h;done)
     |(have e3:e<3:=by(have q:(e:Int)<3:=Kj ‹decide (_<(3:Int))=true›;omega)
       have q:AU p.W p.H i e=0:=I4;have E:s.kn.getD (AF p.W p.H i e).toNat false=true:=by simpa[FY]using ‹(!s.kn.getD (AF p.W p.H i e).toNat FY.d)=false›
       first
       |(have R:(!decide (s.out.getD (AF p.W p.H i e).toNat AE.d=IG p.W p.H (EF p.l) (s.out.getD i.toNat AE.d) i e))=true:=by rw[<-mvEq];exact h
         have L:NF p=none:=by rw[hr,b8c e3,b22 q E,J8 (by simpa using R)];rfl
         first
         |(unfold BA;rw[L];rfl)
         |(unfold IX;rw[L];rfl))
       |(have S:(!decide (s.out.getD (AF p.W p.H i e).toNat AE.d=IG p.W p.H (EF p.l) (s.out.getD i.toNat AE.d) i e))=false:=by rw[<-mvEq];exact h
         have h1:Ko p.W p.H (EF p.l) s i e=some s:=by rw[b22 q E,J7 (by simpa using S)]
         refine⟨(s,e+1,i),⟨e3,k,o,He,v,Nat.succ_pos g,y⟩,Gj,?_⟩))
     |(have e3:e<3:=by(have q:(e:Int)<3:=Kj ‹decide (_<(3:Int))=true›;omega)
       have q:AU p.W p.H i e=0:=I4;have Q:=K q;have E:s.kn.getD (AF p.W p.H i e).toNat false=false:=by simpa[FY]using ‹(!s.kn.getD (AF p.W p.H i e).toNat FY.d)=true›
       have h1:=c2a (has:=EF p.l) q E Dx;have hc:=b2r (n:=(AF p.W p.H i e).toNat) Dx E;have T:0<=(s.out.getD i.toNat AE.d).t/\(s.out.getD i.toNat AE.d).t<=255:=k.2.2.2 _ (by simp[show i.toNat<s.out.length from Dx]);refine⟨(⟨s.out.set (AF p.W p.H i e).toNat (IG p.W p.H (EF p.l) (s.out.getD i.toNat AE.d) i e),s.kn.set (AF p.W p.H i e).toNat true,s.wt++[AF p.W p.H i e]⟩,e+1,i),⟨e3,⟨by simp[O],by simp[P],λx hx=> ?_,b3k k.2.2.2 (c24 T)⟩,o,He,?_,Nat.succ_pos g,y⟩,Gj,?_⟩)
     |skip)
    all_goals(first
     |(rcases Jt.1 (by assumption:_∈_++_)with hx|hx
       .exact k.2.2.1 _ hx
       .rw[Jw.1 hx];omega)
     |(show 2*(s.kn.set _ true).count false+(s.wt++[_]).length<=g
       unfold KC at v;simp only[Iv];omega)
     |skip)
    all_goals refine X0a _ ?_;(repeat' first|constructor|intro h)<;>refine Lm ?_
    all_goals(first
     |exact A6
     |exact Be
     |omega
     |(simp;done)
     |(intro j I
       by_cases w:j=(AF p.W p.H i e).toNat
       .rw[Jr w,b15 AE Dx w];rfl
       .rw[Jq w,b3g AE w];rfl)
     |(intro j I
       by_cases w:j=(AF p.W p.H i e).toNat
       .rw[Jr w,b15 FY Dx w];rfl
       .rw[Jq w,b3g FY w];rfl)
     |(intro j I
       by_cases q:j<s.wt.length
       .rw[J7 q,b0a AC q]
       .rw[J8 q,show j=s.wt.length from Dx,Kw,b09];rfl)
     |skip)
theorem d4g{W H:Int}{has:List Int->Bool}{s b:BS}{i e:Int}(h:Ko W H has s i e=some b)(a:∀m∈s.out,0<=m.t/\m.t<=255):b.out.length=s.out.length/\∀m∈b.out,0<=m.t/\m.t<=255:=by
 unfold Ko at h;split at h
 .simp only at h;split at h
  .cases h;cases s.kn.getD (AF W H i e).toNat false with
   |true=>exact⟨rfl,a⟩
   |false=>
    simp only[cond_false];refine⟨Dz,b3k a (c24 ?_)⟩;rw[J5];cases hg:s.out[i.toNat]? with
    |none=>decide
    |some m=>exact a m (Jb hg)
  .cases h
 .cases h;exact⟨rfl,a⟩
theorem c2g{W H:Int}{has:List Int->Bool}{i:Int}:∀(l:List Int) {s f:BS},ML W H has i l s=some f->(∀m∈s.out,0<=m.t/\m.t<=255)->f.out.length=s.out.length/\∀m∈f.out,0<=m.t/\m.t<=255
 | [],s,f,h,g=>by cases h;exact⟨rfl,g⟩
 |e::l,s,f,h,g=>by simp only[ML,Jd]at h;obtain⟨s1,j,k⟩:=h;obtain⟨a,b⟩:=d4g j g;obtain⟨c,d⟩:=c2g l k b;exact⟨c.trans a,d⟩
theorem d31{W H:Int}{has:List Int->Bool}:∀(f:Nat) {s:BS} {l:List Mv},II W H has f s=some l->(∀m∈s.out,0<=m.t/\m.t<=255)->l.length=s.out.length/\∀m∈l,0<=m.t/\m.t<=255
 |0,s,l,h,e=>by
  simp only[II]at h;split at h<;>cases h
  exact⟨rfl,e⟩
 |f+1,s,l,h,e=>by
  simp only[II]at h;split at h
  .cases h;exact⟨rfl,e⟩
  .simp only[Jd]at h;obtain⟨s1,g,i⟩:=h;obtain⟨a,b⟩:=c2g _ g (s:=⟨s.out,s.kn,_⟩) e;obtain⟨c,d⟩:=d31 f i b;exact⟨c.trans a,d⟩
theorem c05(p:Pt):(IX p=0->(BA p).length=FO p)/\(∀m∈BA p,0<=m.t/\m.t<=255)/\(BA p).length<=FO p:=by
 unfold IX BA;cases h:NF p with
 |none=>simp
 |some l=>
  have:=d31 _ h (λm a=>by have:m=AE.d:=(List.mem_replicate.1 a).2;rw[this];decide)
  simp only[FJ,List.length_replicate]at this;exact⟨λ_=>this.1,this.2,Nat.le_of_eq this.1⟩
def WF(r m:Mv):Int:=Gl m.t m.x m.y r.t r.x r.y
def Ry(W H:Int)(m:Mv)(i:Nat):Int:=HG m.t m.x m.y (BW W H i) (BX W H i) (BZ W H i)
def imC(W H:Int)(m:Mv)(i:Nat):Cl:=⟨keep (Ry W H m i) (LD m.t m.x m.y (BW W H i) (BX W H i)),keep (Ry W H m i) (LU m.t m.x m.y (BW W H i) (BX W H i)),keep (Ry W H m i) (KN m.t (BZ W H i))⟩
def JI(p:Pt)(r:Mv)(i:Nat):Int:=if WF r ((BA p).getD i AE.d)=0 then Ry p.W p.H (GX ((BA p).getD i AE.d) r) i else WF r ((BA p).getD i AE.d)
def Bo(p:Pt)(r:Mv):Int:=if BG p=0 then(if DP r.t r.x r.y=0 then(if IX p=0 then MA (JI p r) (BA p).length 0 else IX p)else 1)else BG p
def BC(p:Pt)(r:Mv):List Mv:=if Bo p r=0 then(BA p).map λm=>GX m r else []
def CC(p:Pt)(r:Mv):List Cl:=if Bo p r=0 then(List.range (BA p).length).map λi=>imC p.W p.H (GX ((BA p).getD i AE.d) r) i else []
def KJ(p:Pt)(r:Mv)(j:Nat):Mv:=GX ((BA p).getD j AE.d) r
def WY(p:Pt)(r:Mv)(j:Nat):Cl:=imC p.W p.H (KJ p r j) j
theorem Si{p:Pt}{r:Mv}(h:Bo p r=0):(BC p r).length=(BA p).length/\∀j,j<(BA p).length->(BC p r).getD j AE.d=KJ p r j:=by unfold BC;rw[J7 h];refine⟨Dz,λj a=> ?_⟩;simp[a,KJ]
theorem b0j{p:Pt}{r:Mv}(h:Bo p r=0):(CC p r).length=(BA p).length/\∀j,j<(BA p).length->(CC p r).getD j DE.d=WY p r j:=by unfold CC;rw[J7 h];refine⟨Dz,λj a=> ?_⟩;simp[a,WY,KJ]
theorem b29{p:Pt}{r:Mv}(h:Bo p r≠0):BC p r=[]/\CC p r=[]:=by unfold BC CC;rw[J8 h,J8 h];exact⟨rfl,rfl⟩
theorem HA(p:Pt):(⟨p.W,p.H,DZ p.l.length (DU p.l)⟩:Pt)=p:=by rw[CI]
def OL(r:Mv):SV:=.agg [.int .u8 r.t,.int .i64 r.x,.int .i64 r.y]
def Um:AK
 | [x,.agg [.int .u8 t,.int .i64 a,.int .i64 b]]=>match NS x with
   |some (q,p)=>some ((q/\∀c∈p.l,AD .u8 c.e)/\0<=t/\t<=255,.tup [.sl 3 (BC p ⟨t,a,b⟩).length (AE.row (BC p ⟨t,a,b⟩)) none,.sl 3 (CC p ⟨t,a,b⟩).length (DE.row (CC p ⟨t,a,b⟩)) none,.int .i64 (Bo p ⟨t,a,b⟩)])
   |none=>none
 |_=>none
def FBoth:Fam:=⟨Pt×Mv,λ(p,r)=>[ID p,OL r],λ(p,r)=>(p.l.length<=100000/\∀c∈p.l,AD .u8 c.e)/\0<=r.t/\r.t<=255,λ(p,r)=>.tup [.sl 3 (BC p r).length (AE.row (BC p r)) none,.sl 3 (CC p r).length (DE.row (CC p r)) none,.int .i64 (Bo p r)]⟩
def IBoth:Pt×Mv->Nat->Option Inv
 |(p,r),11=>some {β:=Nat,ok:=λi=>i<=(BA p).length/\MA (JI p r) (BA p).length 0=MA (JI p r) ((BA p).length-i) i,st:=λi=>⟨[⟨36,none,.int .i64 i⟩,⟨35,none,.int .i64 (BA p).length⟩,⟨34,none,.osl 2⟩,⟨10,none,.osl 3⟩,⟨8,none,.osl 2⟩,⟨6,none,.int .i64 0⟩,⟨5,none,.con (.slice none 0 0)⟩,⟨4,none,.con (.slice none 0 0)⟩,⟨3,none,.own 1 0⟩,⟨2,none,.own 0 0⟩],[.cells 29 [.int .i64 p.W,.int .i64 p.H,.sl 3 p.l.length (DU p.l) none],.cells 31 [.int .u8 r.t,.int .i64 r.x,.int .i64 r.y],.row 31 3 (BA p).length (λj=>AE.sv (upto (KJ p r) (λj=>(BA p).getD j AE.d) i j)) none,.row 39 3 (BA p).length (λj=>DE.sv (upto (WY p r) (λ_=>DE.d) i j)) none]⟩,μ:=λi=>(BA p).length-i}
 |_,_=>none
theorem f5x:PS 82 Um:=by
 refine LL {l:=[(116,YI),(17,QU),(118,Va),(83,VB),(119,VC)],h:=[(117,hRel)]} ⟨by simpa using⟨d3c,Tx,b28,f8h,b5a⟩,Dz,by simpa using pRel⟩ FBoth IBoth Um ?_ ?_ Tryz.func82 Dy Dy Dy ?_
 .intro args pre s h f;unfold Um at h;split at h
  .rename_i x t a b;split at h
   .rename_i q p hx;cases h;exact⟨(p,⟨t,a,b⟩),⟨(Nl hx f.1.1).1,Gk,Ja⟩,⟨⟨(Nl hx f.1.1).2,f.1.2⟩,f.2⟩,rfl⟩
   .cases h
  .cases h
 .exact Bx
 .rintro⟨p,r⟩ f;replace f:(p.l.length<=100000/\∀c∈p.l,AD .u8 c.e)/\0<=r.t/\r.t<=255:=f;have C:BG p≠0->Bo p r=BG p:=λh=>by unfold Bo;rw[if_neg h]
  have E:BG p=0->DP r.t r.x r.y≠0->Bo p r=1:=λh g=>by unfold Bo;rw[if_pos h,if_neg g]
  have F:BG p=0->DP r.t r.x r.y=0->IX p≠0->Bo p r=IX p:=λh g u=>by unfold Bo;rw[if_pos h,if_pos g,if_neg u]
  have G:BG p=0->DP r.t r.x r.y=0->IX p=0->Bo p r=MA (JI p r) (BA p).length 0:=λh g u=>by unfold Bo;rw[if_pos h,if_pos g,if_pos u]
  have b5:Bo p r≠0->(BC p r).length=0/\(CC p r).length=0:=λh=>by rw[(b29 h).1,(b29 h).2];exact⟨rfl,rfl⟩
  have v:=c05 p;refine X0a _ ?_;(repeat' first|constructor|intro h)<;>refine Lm ?_
  all_goals(try simp only[CI]at*)
  all_goals(first
   |exact⟨⟨Do _,f.1.1⟩,f.1.2⟩
   |exact f.2
   |(have o:BG p=0:=by simpa using ‹(!decide (BG p=0))=false›
     exact⟨⟨Do _,f.1.1⟩,f.1.2,o⟩)
   |(fail_if_success (with_reducible refine Exists.intro ?_ ?_)
     have h1:=b5;have N:=C;have O:=E;have P:=F;clear C E F G b5 v;simp only[Ig,Im]at*;first
     |(have e:=N E2;first|exact Bs)
     |(have e:=O E2 E2;first|exact(h1 (by rw[e];decide)).1|exact(h1 (by rw[e];decide)).2|exact e.symm)
     |(have e:=P E2 E2 E2;first|exact Bs))
   |skip)
  all_goals(
   have o:BG p=0:=Kj (by simpa using ‹(!decide (BG ⟨p.W,p.H,p.l⟩=0))=false›);have Q:DP r.t r.x r.y=0:=Kj (by simpa using ‹(!decide (DP r.t r.x r.y=0))=false›);have e2:IX p=0:=Kj (by simpa using ‹(!decide (IX ⟨p.W,p.H,p.l⟩=0))=false›);have hs:=(FI o).1;obtain⟨n1,n2,n3⟩:=b2s hs;have B:=v.1 e2;have I:=G o Q e2)
  .have:(BA ⟨p.W,p.H,p.l⟩).length=FO p:=B;refine⟨Dx,Dx,Rs Dy Dx Dx,Dx⟩
  refine⟨(0:Nat),⟨Jj _,rfl⟩,?_,?_⟩
  .refine X0a _ ?_;(repeat' first|constructor|intro h)<;>refine Lm ?_
   all_goals(first
    |exact A6
    |(intro j k;show _=AE.sv (upto _ _ 0 j);rw[b6h];rfl)
    |(intro j k;show _=DE.sv (upto _ _ 0 j);rw[b6h];rfl)
    |skip)
  .intro i n;replace n:i<=(BA p).length/\MA (JI p r) (BA p).length 0=MA (JI p r) ((BA p).length-i) i:=n;have J:0<=((BA p).getD i AE.d).t/\((BA p).getD i AE.d).t<=255:=by
    rw[J5];cases hg:(BA p)[i]? with
    |none=>decide
    |some m=>exact v.2.1 m (Jb hg)
   have K:=c6d (x:=((BA p).getD i AE.d).x) (y:=((BA p).getD i AE.d).y) (z:=r.x) (w:=r.y) J.1 f.2.1;have R:=TL p.W p.H i;have L:i<(BA p).length->JI p r i≠0->Bo p r=JI p r i:=λh g=>by rw[I,n.2,show (BA p).length-i=((BA p).length-(i+1))+1 from Dx];simp only[MA];rw[J8 g]
   have S:i<(BA p).length->JI p r i=0->MA (JI p r) (BA p).length 0=MA (JI p r) ((BA p).length-(i+1)) (i+1):=λh g=>by rw[n.2,show (BA p).length-i=((BA p).length-(i+1))+1 from Dx];simp only[MA];rw[J7 g]
   have T:¬i<(BA p).length->Bo p r=0:=λh=>by rw[I,n.2,show (BA p).length-i=0 from Dx];rfl
   have U:WF r ((BA p).getD i AE.d)≠0->JI p r i=WF r ((BA p).getD i AE.d):=λh=>by unfold JI;rw[if_neg h]
   have M:WF r ((BA p).getD i AE.d)=0->JI p r i=Ry p.W p.H (KJ p r i) i:=λh=>by unfold JI;rw[if_pos h];rfl
   refine X0a _ ?_;(repeat' first|constructor|intro h)<;>refine Lm ?_
   all_goals(try simp only[If,c0s _ _ (Jf i),decide_true,N1,Ig]at*)
   all_goals(try(replace b6:i<(BA p).length:=Dx))
   all_goals(first
    |omega
    |exact⟨J,f.2⟩
    |exact⟨K.1,K.2,R.1⟩
    |exact A4
    |(show i<(BA p).length;omega)
    |(have e:=U E2
      have e2:=L Dx (by rw[e];assumption);first
      |exact Bk)
    |(have e:=M E2
      have e2:=L Dx (by rw[e];assumption);first
      |exact Bk)
    |(have e:=M E2
      refine⟨i+1,⟨Dx,S Dx (by rw[e];assumption)⟩,Dx,?_⟩)
    |(have e:=T Dx
      first
      |exact e.symm
      |exact(Si e).1.symm
      |exact(b0j e).1.symm
      |(intro j k;show AE.sv _=AE.sv _;rw[b8j _ _ Dx,(Si e).2 j Dx])
      |(intro j k;show DE.sv _=DE.sv _;rw[b8j _ _ Dx,(b0j e).2 j Dx]))
    |skip)
   all_goals refine X0a _ ?_;(repeat' first|constructor|intro h)<;>refine Lm ?_
   all_goals(try simp only[]at*)
   all_goals(first
    |exact Aq
    |(intro j k;exact b68 AE (λ_ _=>rfl) (λ_ _=>rfl) (KJ p r) _ i j)
    |(intro j k;exact b68 DE (λ_ _=>rfl) (λ_ _=>rfl) (WY p r) _ i j)
    |skip)
def AJ(W H i:Int):Cl:=⟨BW W H i,BX W H i,BZ W H i⟩
theorem HB{W H:Int}(h:AP W H=0):1<=W/\1<=H/\W<=256/\H<=256/\W*H<=256:=by
 unfold AP at h;split at h
 .assumption
 .cases h
theorem ce_ok{W H i:Int}(hs:AP W H=0)(a:0<=i)(h:i<4*W*H):KO W H i=0:=by simp[KO,hs,SO,a,h]
theorem JJ{W H i:Int}(hs:AP W H=0)(a:0<=i)(h:i<4*W*H):AJ W H i=⟨i/4%W,i/4/W,i%4⟩:=by have e:=ce_ok hs a h;simp[AJ,BW,BX,BZ,e]
theorem IY{W H i:Int}(hs:AP W H=0)(a:0<=i)(h:i<4*W*H):
 (0<=(AJ W H i).x/\(AJ W H i).x<W)/\(0<=(AJ W H i).y/\(AJ W H i).y<H)/\(0<=(AJ W H i).q/\(AJ W H i).q<=3)/\i=4*((AJ W H i).y*W+(AJ W H i).x)+(AJ W H i).q:=by
 have hw:=HB hs;rw[JJ hs a h];simp only;have a1:=Mc (i/4) (show W≠0 from Dx);have a2:=M4 (i/4) (show 0<W from Dx);have a3:0<=i/4/W:=Int.ediv_nonneg Dx Dx;have a4:i/4/W<H:=by
  apply Int.ediv_lt_of_lt_mul Dx;have:4*W*H=4*(H*W):=by rw[M0,Int.mul_comm W H]
  omega
 have a5:=Mw (i/4) W;have a6:i/4/W*W=W*(i/4/W):=Int.mul_comm _ _;omega
theorem g09{W H x y q:Int}(hs:AP W H=0)(hx:0<=x/\x<W)(c:0<=y/\y<H)(hq:0<=q/\q<=3):0<=4*(y*W+x)+q/\4*(y*W+x)+q<4*W*H/\AJ W H (4*(y*W+x)+q)=⟨x,y,q⟩:=by
 have hw:=HB hs;have b0:0<=y*W:=Int.mul_nonneg c.1 Dx;have b1:y*W+x<W*H:=by have:(y+1)*W<=H*W:=Int.mul_le_mul_of_nonneg_right Dx Dx;rw[Int.add_mul,Int.one_mul,Int.mul_comm H W]at this;omega
 have b2:4*W*H=4*(W*H):=M0 _ _ _;have a:0<=4*(y*W+x)+q:=Dx;have b:4*(y*W+x)+q<4*W*H:=Dx;refine⟨a,b,?_⟩;rw[JJ hs a b];have d:(4*(y*W+x)+q)/4=y*W+x:=Dx;rw[d];refine Cl.ext' ?_ ?_ ?_
 .show (y*W+x)%W=x;rw[Int.add_comm,Int.add_mul_emod_self_right];exact Int.emod_eq_of_lt hx.1 hx.2
 .show (y*W+x)/W=y;rw[Int.add_comm,Int.add_mul_ediv_right _ _ Dx,Int.ediv_eq_zero_of_lt hx.1 hx.2];omega
 .show (4*(y*W+x)+q)%4=q;omega
theorem MX{c:Cl}{e:Int}(a:0<=c.q/\c.q<=3)(b:0<=e/\e<3):(c.x-1<=(AV c e).x/\(AV c e).x<=c.x+1)/\(c.y-1<=(AV c e).y/\(AV c e).y<=c.y+1)/\(0<=(AV c e).q/\(AV c e).q<=3):=by obtain⟨X,Y,Q⟩:=c;simp only at a;rcases EW a with rfl|rfl|rfl|rfl<;>rcases GS b with rfl|rfl|rfl<;>(simp[AV,EI,EK,EM,tb];try omega)
theorem VQ{c:Cl}{e:Int}(a:0<=c.q/\c.q<=3)(b:0<=e/\e<3):AV (AV c e) e=c:=by obtain⟨X,Y,Q⟩:=c;simp only at a;rcases EW a with rfl|rfl|rfl|rfl<;>rcases GS b with rfl|rfl|rfl<;>(simp[AV,EI,EK,EM,tb];try omega)
theorem f5a{W H i e:Int}(hs:AP W H=0)(a:0<=i)(h:i<4*W*H)(b:0<=e/\e<3):GC (AJ W H i).x (AJ W H i).y (AJ W H i).q e=0:=by have hw:=HB hs;have c:=IY hs a h;have d:=MX c.2.2.1 b;simp only[AV]at d;unfold GC;rw[J7 ⟨Gm,Dx⟩,J7];unfold EC;rw[J7];omega
theorem Vs{W H i e:Int}(hs:AP W H=0)(b:0<=i)(h:i<4*W*H)(d:0<=e/\e<3):
 (AU W H i e=0↔(0<=(AV (AJ W H i) e).x/\(AV (AJ W H i) e).x<W)/\0<=(AV (AJ W H i) e).y/\(AV (AJ W H i) e).y<H)/\
 (AU W H i e=0->AF W H i e=4*((AV (AJ W H i) e).y*W+(AV (AJ W H i) e).x)+(AV (AJ W H i) e).q):=by
 have hw:=HB hs;have l:=IY hs b h;have hb:=MX l.2.2.1 d;have f:=ce_ok hs b h;have m:=f5a hs b h d;have a:GC (BW W H i) (BX W H i) (BZ W H i) e=0:=m;have g:JE (BW W H i) (BX W H i) (BZ W H i) e=(AV (AJ W H i) e).x:=by simp[JE,a,AV,AJ]
 have j:JG (BW W H i) (BX W H i) (BZ W H i) e=(AV (AJ W H i) e).y:=by simp[JG,a,AV,AJ]
 have k:Ho (BW W H i) (BX W H i) (BZ W H i) e=(AV (AJ W H i) e).q:=by simp[Ho,a,AV,AJ]
 have n:AU W H i e=LQ W H (AV (AJ W H i) e).x (AV (AJ W H i) e).y (AV (AJ W H i) e).q:=by simp[AU,f,a,g,j,k]
 have o:AF W H i e=QO W H (AV (AJ W H i) e).x (AV (AJ W H i) e).y (AV (AJ W H i) e).q:=by simp[AF,f,a,g,j,k]
 rw[n,o];have r:EC (AV (AJ W H i) e).x (AV (AJ W H i) e).y (AV (AJ W H i) e).q=0:=Gm;refine⟨?_,λh=>by simp[QO,h]⟩;unfold LQ;rw[J7 hs];constructor
 .intro h;split at h
  .rename_i c;exact⟨⟨c.2.1,c.2.2.1⟩,c.2.2.2⟩
  .cases h
 .intro h;rw[J7 ⟨r,h.1.1,h.1.2,h.2⟩]
theorem GH{W H i e:Int}(hs:AP W H=0)(b:0<=i)(h:i<4*W*H)(c:0<=e/\e<3)(d:AU W H i e=0):
 (0<=AF W H i e/\AF W H i e<4*W*H)/\AJ W H (AF W H i e)=AV (AJ W H i) e:=by
 have j:=IY hs b h;have k:=MX j.2.2.1 c;have f:=Vs hs b h c;have g:=f.1.1 d;have a:=g09 hs g.1 g.2 k.2.2;rw[f.2 d];exact⟨⟨a.1,a.2.1⟩,a.2.2⟩
theorem Qq{W H i e:Int}(hs:AP W H=0)(d:0<=i)(h:i<4*W*H)(b:0<=e/\e<3)(g:AU W H i e=0):
 AU W H (AF W H i e) e=0/\AF W H (AF W H i e) e=i:=by
 have a:=IY hs d h;obtain⟨⟨j,k⟩,l⟩:=GH hs d h b g;have c:=Vs hs j k b;rw[l,VQ a.2.2.1 b]at c;have f:AU W H (AF W H i e) e=0:=c.1.2 ⟨a.1,a.2.1⟩;exact⟨f,by rw[c.2 f];exact a.2.2.2.symm⟩
theorem c1w{W H i e:Int}(hs:AP W H=0)(b:0<=i)(h:i<4*W*H)(c:0<=e/\e<3)(a:AU W H i e=0):CR W H (AF W H i e) e=CR W H i e:=by obtain⟨d,f⟩:=Qq hs b h c a;simp[CR,EA,ET,a,d,f,Int.min_comm]
theorem d46{c:Cl}{e:Int}(a:0<=c.q/\c.q<=3)(b:0<=e/\e<3):DB (AV c e).q e=DB c.q e/\DF (AV c e).x (AV c e).y (AV c e).q e=DF c.x c.y c.q e:=by obtain⟨X,Y,Q⟩:=c;simp only at a;rcases EW a with rfl|rfl|rfl|rfl<;>rcases GS b with rfl|rfl|rfl<;>(simp[AV,EI,EK,EM,tb,DB,DF,Hl,JU];try omega)
theorem sl_eq{W H i e:Int}(hs:AP W H=0)(b:0<=i)(h:i<4*W*H)(f:0<=e/\e<3)(g:AU W H i e=0)(j:EA W H i e=i):
 Tt W H i e=DB (AJ W H i).q e/\UZ W H i e=DF (AJ W H i).x (AJ W H i).y (AJ W H i).q e:=by
 have hw:=HB hs;have a:=IY hs b h;have c:Ph W H i e=0:=by simp[Ph,hs,g,j,ET]
 have d:=JJ hs b h;have k:Tm W H i e=0:=by simp only[Tm,c,Kp,NG];rw[d]at a;simp only at a;unfold RF;rw[J7 ⟨Gm,Dx⟩,J7];unfold FV;rw[J7];have l:=EW a.2.2.1;rcases l with q|q|q|q<;>rcases GS f with rfl|rfl|rfl<;>(rw[q];simp[DB,DF,Hl,JU,tb];omega)
 rw[d];simp[Tt,UZ,c,k,keep]
theorem b2i{W H i e:Int}{has:List Int->Bool}{m:Mv}(hs:AP W H=0)(d:0<=i)(h:i<4*W*H)(b:0<=e/\e<3)(a:AU W H i e=0):
 IG W H has m i e=bif has (CR W H i e)then GX (El (DB (AJ W H i).q e) (DF (AJ W H i).x (AJ W H i).y (AJ W H i).q e)) m else m:=by
 have k:=IY hs d h;obtain⟨⟨l,n⟩,o⟩:=GH hs d h b a;obtain⟨g,p⟩:=Qq hs d h b a;have j:=d46 k.2.2.1 b;have r:ET W H i e=e:=by simp[ET,a]
 have c:Tt W H (EA W H i e) e=DB (AJ W H i).q e/\UZ W H (EA W H i e) e=DF (AJ W H i).x (AJ W H i).y (AJ W H i).q e:=by
  by_cases hl:i<=AF W H i e
  .have f:EA W H i e=i:=by simp only[EA,a,Kp];omega
   rw[f];exact sl_eq hs d h b a f
  .have f:EA W H i e=AF W H i e:=by simp only[EA,a,Kp];omega
   have s:EA W H (AF W H i e) e=AF W H i e:=by simp only[EA,g,Kp,p];omega
   rw[f];have:=sl_eq hs l n b g s;rw[o]at this;rw[this.1,this.2,j.1,j.2];exact⟨rfl,rfl⟩
 unfold IG;rw[r,c.1,c.2]
def GP(m:Mv)(c:Cl)(K:Int):Prop:=(-K<=(DX m c).x/\(DX m c).x<=K)/\ -K<=(DX m c).y/\(DX m c).y<=K
theorem f8z{W H:Int}{c:Cl}(hs:AP W H=0)(hx:0<=c.x/\c.x<W)(hy:0<=c.y/\c.y<H)(hq:0<=c.q/\c.q<=3):vC c:=by have:=HB hs;unfold vC;omega
theorem f3b{t a b:Int}(ha: -700<=a/\a<=700)(hb: -700<=b/\b<=700):(-700<=(AM t a b).1/\(AM t a b).1<=700)/\ -700<=(AM t a b).2/\(AM t a b).2<=700:=by
 unfold AM;repeat' split
 all_goals(simp only;omega)
theorem d25{t a b:Int}(h:(a+b)%2=0):((AM t a b).1+(AM t a b).2)%2=0:=by
 unfold AM;repeat' split
 all_goals(simp only;omega)
theorem c72{m:Mv}{c:Cl}{K:Int}(b:vM m)(hc:(0<=c.x/\c.x<=300)/\(0<=c.y/\c.y<=300)/\0<=c.q/\c.q<=3)(a:GP m c K)(hK:0<=K/\K<=2000):(-2400<=m.x/\m.x<=2400)/\ -2400<=m.y/\m.y<=2400:=by unfold GP at a;rw[Il b Dx]at a;simp only at a;rcases FT b with e|e|e|e|e|e|e|e<;>simp only[sq,e]at a<;>simp at a<;>omega
theorem c2c{m:Mv}{c:Cl}{e K:Int}(i:0<=e/\e<3)(j:(0<=c.x/\c.x<=300)/\(0<=c.y/\c.y<=300)/\0<=c.q/\c.q<=3)(a:vM m)(v:GP m c K)(w:0<=K/\K<=2000):
 vM (GX (El (DB c.q e) (DF c.x c.y c.q e)) m)/\DX (GX (El (DB c.q e) (DF c.x c.y c.q e)) m) (AV c e)=DX m c/\DX (GX (El (DB c.q e) (DF c.x c.y c.q e)) m) c=DX m (AV c e):=by
 obtain⟨f,k,l,n⟩:=@b87 c e i Dx;generalize El (DB c.q e) (DF c.x c.y c.q e)=r at*;have hb:=MX j.2.2 i;have ku:=c72 a j v w;have o:=@b46 m.t r.x r.y (FT a);have hll:=@f3b m.t r.x r.y n.1 n.2;have hlp:=@d25 m.t r.x r.y (PX f).2.2;have cm:=(PX a).2.2;have g:Gl r.t r.x r.y m.t m.x m.y=0:=by unfold Gl;rw[J7 ⟨f.2,a.2⟩,o.1,o.2];unfold MD;rw[J7];unfold DP;rw[J7];refine⟨?_,Dx,Dx,Dx,Dx,Dx⟩;rw[f7a (FT f) (FT a)];rcases FT f with b|b|b|b|b|b|b|b<;>rcases FT a with d|d|d|d|d|d|d|d<;>rw[b,d]<;>decide
 have s:vC c:=G1;have u:vC (AV c e):=G1;refine⟨(Vk f.1 a.1 g).2.2.2,?_,?_⟩
 .rw[b9b f.1 a.1 g u (by rw[l];exact s),l]
 .rw[b9b f.1 a.1 g s (by rw[k];exact u),k]
theorem c79{m:Mv}{c:Cl}{e K:Int}(d:0<=e/\e<3)(f:(0<=c.x/\c.x<=300)/\(0<=c.y/\c.y<=300)/\0<=c.q/\c.q<=3)(b:vM m)(a:GP m c K):GP m (AV c e) (K+1):=by have hb:=MX f.2.2 d;unfold GP at*;rw[Il b Dx]at a⊢;simp only at a⊢;rcases FT b with e|e|e|e|e|e|e|e<;>simp only[sq,e]at a⊢ <;>simp at a⊢ <;>omega
theorem NO{α:Type}{T:List α}{i j:Nat}{x d:α}(h:i<T.length):(T.set i x).getD j d=if j=i then x else T.getD j d:=by
 by_cases e:j=i
 .subst e;simp[h]
 .simp[Jk (Ne.symm e),e]
theorem Xw:∀l:List Bool,l.count true+l.count false=l.length
 | []=>rfl
 |a::r=>by have:=Xw r;cases a<;>simp<;>omega
section
variable{W H:Int}{has:List Int->Bool}
def AG(W H:Int):Nat:=(4*W*H).toNat
theorem CF(hs:AP W H=0):(AG W H:Int)=4*W*H/\AG W H<=1024/\4<=AG W H:=by have h:=HB hs;have e:4*W*H=4*(W*H):=M0 _ _ _;have:0<W*H:=Int.mul_pos Dx Dx;unfold AG;omega
def TZ(W H:Int)(has:List Int->Bool)(s:BS)(i e:Int):Prop:=
 AU W H i e=0->s.kn.getD (AF W H i e).toNat false=true/\s.out.getD (AF W H i e).toNat AE.d=IG W H has (s.out.getD i.toNat AE.d) i e
structure More (s s':BS):Prop where
 kn:∀j:Nat,s.kn.getD j false=true->s'.kn.getD j false=true/\s'.out.getD j AE.d=s.out.getD j AE.d
 wt:∀i∈s.wt,i∈s'.wt
 new:∀j:Nat,s'.kn.getD j false=true->s.kn.getD j false=true\/(j:Int)∈s'.wt
theorem More.refl(s:BS):More s s:=⟨λ_ h=>⟨h,rfl⟩,λ_ h=>h,λ_ h=>.inl h⟩
theorem More.trans{a b c:BS}(h:More a b)(k:More b c):More a c:=
 ⟨λj d=>⟨(k.kn j (h.kn j d).1).1,(k.kn j (h.kn j d).1).2.trans (h.kn j d).2⟩,λi g=>k.wt i (h.wt i g),λj d=>by
   rcases k.new j d with e|e
   .rcases h.new j e with f|f
    .exact .inl f
    .exact .inr (k.wt _ f)
   .exact .inr e⟩
theorem TZ.more{s c:BS}{i e:Int}(_:0<=i)(d:s.kn.getD i.toNat false=true)(h:TZ W H has s i e)(m:More s c):TZ W H has c i e:=by intro f;obtain⟨g,j⟩:=h f;have a:=m.kn _ g;have b:=m.kn _ d;exact⟨a.1,by rw[a.2,b.2,j]⟩
structure BI (W H:Int) (s:BS):Prop where
 ol:s.out.length=AG W H
 kl:s.kn.length=AG W H
 wt:∀i∈s.wt,(0<=i/\i<4*W*H)/\s.kn.getD i.toNat false=true
 kn:∀j:Nat,s.kn.getD j false=true->vM (s.out.getD j AE.d)/\GP (s.out.getD j AE.d) (AJ W H j) (s.kn.count true)
theorem BI.lt{s:BS}(h:BI W H s){j:Nat}(a:s.kn.getD j false=true):j<AG W H:=by rw[<-h.kl];apply Classical.byContradiction;intro hc;rw[J5,Li Dx]at a;cases a
theorem b9m{m:Mv}{c:Cl}{K L:Int}(h:GP m c K)(hl:K<=L):GP m c L:=by unfold GP at*;omega
theorem PH{i:Int}(hs:AP W H=0)(a:0<=i)(h:i<4*W*H):(0<=(AJ W H i).x/\(AJ W H i).x<=300)/\(0<=(AJ W H i).y/\(AJ W H i).y<=300)/\0<=(AJ W H i).q/\(AJ W H i).q<=3:=by have:=IY hs a h;have:=HB hs;omega
theorem b7v{s f:BS}{i e:Int}(hs:AP W H=0)(h:BI W H s)(r:0<=i)(hi:i<4*W*H)(t:s.kn.getD i.toNat false=true)(g:0<=e/\e<3)(b:Ko W H has s i e=some f):
 BI W H f/\More s f/\TZ W H has f i e:=by
 unfold Ko at b;split at b;rotate_left
 .rename_i k;cases b;exact⟨h,.refl _,λe=>absurd e k⟩
 rename_i k;obtain⟨⟨z,A⟩,B⟩:=GH hs r hi g k;have hN:=CF hs;have j7:(AF W H i e).toNat<AG W H:=Dx;have w:=PH hs r hi;simp only at b;by_cases u:s.kn.getD (AF W H i e).toNat false=true
 .rw[u]at b;simp only[N1]at b;split at b
  .rename_i C;cases b;exact⟨h,.refl _,λ_=>⟨u,C⟩⟩
  .cases b
 .have o:s.kn.getD (AF W H i e).toNat false=false:=by simpa using u
  rw[o]at b;simp only[cond_false]at b;rw[J7 (by rw[NO G2,J7 rfl])]at b;cases b;have E:i.toNat≠(AF W H i e).toNat:=λv=>by rw[v,o]at t;cases t
  have F:(s.kn.set (AF W H i e).toNat true).count true=s.kn.count true+1:=by have c1:=b2r (l:=s.kn) (n:=(AF W H i e).toNat) F8 o;have c2:=Xw s.kn;have G:=Xw (s.kn.set (AF W H i e).toNat true);rw[Kq]at G;omega
  have hcN:s.kn.count true<=1024:=by have:=Xw s.kn;have:=h.kl;omega
  obtain⟨vm,q⟩:=h.kn _ t;rw[show ((i.toNat:Nat):Int)=i from Dx]at q;have x:=b2i (has:=has) (m:=s.out.getD i.toNat AE.d) hs r hi g k;have y:vM (IG W H has (s.out.getD i.toNat AE.d) i e)/\GP (IG W H has (s.out.getD i.toNat AE.d) i e) (AJ W H (AF W H i e)) (s.kn.count true+1):=by
   rw[B];cases hc:has (CR W H i e)with
   |false=>
    rw[x,hc];exact⟨vm,c79 g w vm q⟩
   |true=>
    rw[x,hc];simp only[N1];obtain⟨g1,I,_⟩:=c2c g w vm q Dx;refine⟨g1,?_⟩;unfold GP at q⊢;rw[I];omega
  refine⟨⟨by simpa using h.ol,by simpa using h.kl,λj a=> ?_,λj a=> ?_⟩,⟨λj a=> ?_,λj a=>Lv _ a,λj a=> ?_⟩,λ_=>⟨?_,?_⟩⟩
  .rcases Jt.1 a with a|a
   .refine⟨(h.wt j a).1,?_⟩;rw[NO F8];split
    .rfl
    .exact(h.wt j a).2
   .rw[Jw.1 a];refine⟨⟨z,A⟩,?_⟩;rw[NO F8,J7 rfl]
  .rw[NO F8]at a;rw[NO G2,F];by_cases c:j=(AF W H i e).toNat
   .rw[J7 c,show (j:Int)=AF W H i e from Dx];exact⟨y.1,b9m y.2 Dx⟩
   .rw[J8 c]at a⊢;exact⟨(h.kn j a).1,b9m (h.kn j a).2 Dx⟩
  .have c:j≠(AF W H i e).toNat:=λv=>by rw[v,o]at a;cases a
   rw[NO F8,J8 c,NO G2,J8 c];exact⟨a,rfl⟩
  .rw[NO F8]at a;by_cases c:j=(AF W H i e).toNat
   .exact .inr (M1 _ (Jw.2 Dx))
   .rw[J8 c]at a;exact .inl a
  .rw[NO F8,J7 rfl]
  .rw[NO G2,J7 rfl,NO G2,J8 E]
theorem b37{i:Int}(hs:AP W H=0)(c:0<=i)(hi:i<4*W*H):∀(l:List Int) {s a:BS},(∀e∈l,0<=e/\e<3)->BI W H s->s.kn.getD i.toNat false=true->ML W H has i l s=some a->
 BI W H a/\More s a/\∀e∈l,TZ W H has a i e
 | [],s,a,_,h,_,b=>by cases b;exact⟨h,.refl _,λ_ d=>by cases d⟩
 |e::l,s,a,k,h,f,b=>by
  simp only[ML,Jd]at b;obtain⟨s1,n,o⟩:=b;obtain⟨q,g,r⟩:=b7v hs h c hi f (k e Dz) n;obtain⟨t,m,u⟩:=b37 hs c hi l (λe d=>k e (by simp[d])) q (g.kn _ f).1 o;refine⟨t,g.trans m,λv j=> ?_⟩;rcases Ji.1 j with rfl|j
  .exact r.more c (g.kn _ f).1 m
  .exact u v j
def Vb(W H:Int)(has:List Int->Bool)(s:BS):Prop:=∀j:Nat,s.kn.getD j false=true->(j:Int)∈s.wt\/∀e,0<=e/\e<3->TZ W H has s j e
theorem c0t(hs:AP W H=0):∀(f:Nat) {s:BS} {l:List Mv},BI W H s->Vb W H has s->II W H has f s=some l->∃b,b.out=l/\BI W H b/\b.wt=[]/\Vb W H has b/\∀j:Nat,s.kn.getD j false=true->b.kn.getD j false=true/\b.out.getD j AE.d=s.out.getD j AE.d
 |0,s,l,h,m,a=>by
  unfold II at a;split at a
  .rename_i e;cases a;exact⟨s,rfl,h,e,m,λ_ h=>⟨h,rfl⟩⟩
  .cases a
 |f+1,s,l,h,m,a=>by
  cases hw:s.wt with
  |nil=>
   rw[c0i hw]at a;cases a;exact⟨s,rfl,h,hw,m,λ_ h=>⟨h,rfl⟩⟩
  |cons i r=>
   rw[b8t hw]at a;simp only[Jd]at a;obtain⟨w,x,y⟩:=a;have n:=h.wt i (by rw[hw];simp);have z:BI W H ⟨s.out,s.kn,r⟩:=⟨h.ol,h.kl,λj g=>h.wt j (by rw[hw];exact Ju _ g),h.kn⟩
   obtain⟨A,k,o⟩:=b37 hs n.1.1 n.1.2 [0,1,2] Dz z n.2 x;have q:Vb W H has w:=by
    intro j g;by_cases u:(j:Int)=i
    .right;rw[u];intro e t;rcases GS t with rfl|rfl|rfl
     .exact o 0 Dz
     .exact o 1 Dz
     .exact o 2 Dz
    .rcases k.new j g with bn|bn
     .rcases m j bn with c|c
      .rw[hw]at c;rcases Ji.1 c with c|c
       .exact absurd c u
       .exact .inl (k.wt _ c)
      .right;intro e t;have:=c e t;exact TZ.more (s:=⟨s.out,s.kn,r⟩) Dx Fv this k
     .exact .inl bn
   obtain⟨b,B,C,E,F,v⟩:=c0t hs f A q y;exact⟨b,B,C,E,F,λj g=>⟨(v j (k.kn j g).1).1,(v j (k.kn j g).1).2.trans (k.kn j g).2⟩⟩
theorem b38{kn:Nat->Bool}(hs:AP W H=0)(step:∀(i:Nat) (e:Int),0<=e/\e<3->kn i=true->AU W H i e=0->kn (AF W H i e).toNat=true)(z:kn 0=true):∀j:Nat,j<AG W H->kn j=true:=by
 have hN:=CF hs;have PR:∀(j:Nat) (e:Int),j<AG W H->0<=e/\e<3->AU W H j e=0->kn (AF W H j e).toNat=true->kn j=true:=by intro j e A l a n;obtain⟨⟨n0,n1⟩,_⟩:=GH hs (i:=j) Dx Dx l a;obtain⟨B,C⟩:=Qq hs (i:=j) Dx Dx l a;have:=step (AF W H j e).toNat e l n (by rw[show (((AF W H j e).toNat:Nat):Int)=AF W H j e from Dx];exact B);rw[show (((AF W H j e).toNat:Nat):Int)=AF W H j e from Dx,C]at this;simpa using this
 have o:∀m:Nat,4*m<AG W H->∀q:Nat,q<4->kn (4*m+q)=true:=by
  intro m;induction m using Nat.strongRecOn with
  |ind m x=>
   intro hm;have hw2:=HB hs;have d:∀q:Nat,q<4->(4*m+q:Nat)<AG W H:=λq f=>by
    have:4∣AG W H:=by unfold AG;rw[M0];have:0<W*H:=Int.mul_pos Dx Dx;exact⟨(W*H).toNat,Dx⟩
    obtain⟨k,n⟩:=this;omega
   have g:∀q:Nat,q<4->AJ W H ((4*m+q:Nat):Int)=⟨(m:Int)%W,(m:Int)/W,q⟩:=λq f=>by have:=d q f;rw[JJ hs Dx Dx];have c:((4*m+q:Nat):Int)/4=m:=Dx;have t:((4*m+q:Nat):Int)%4=q:=Dx;rw[c,t]
   have a1:=Mc (m:Int) (show W≠0 from Dx);have a2:=M4 (m:Int) (show 0<W from Dx);have a3:0<=(m:Int)/W:=Int.ediv_nonneg Dx Dx;have E:=Mw (m:Int) W;have a6:(m:Int)/W*W=W*((m:Int)/W):=Int.mul_comm _ _;have y:=IY hs (i:=((4*m:Nat):Int)) Dx Dx;have u:=g 0 Dx;rw[Me]at u;rw[u]at y;simp only at y;have one:∃q:Nat,q<4/\kn (4*m+q)=true:=by
    by_cases F:m=0
    .subst F;exact⟨0,Dx,z⟩
    by_cases hx:0<(m:Int)%W
    .refine⟨3,Dx,?_⟩;have b:AU W H ((4*m+3:Nat):Int) 0=0/\(AF W H ((4*m+3:Nat):Int) 0).toNat=4*(m-1)+1:=by
      have a:=Vs hs (i:=((4*m+3:Nat):Int)) (e:=0) Dx (by have:=d 3 Dx;omega) Dx;rw[g 3 Dx]at a;generalize AF W H ((4*m+3:Nat):Int) 0=v at*;generalize AU W H ((4*m+3:Nat):Int) 0=G at*;simp[AV,EI,EK,EM,tb]at a;have c:=a.1.2 Dx;exact⟨c,by rw[a.2 c];omega⟩
     refine PR (4*m+3) 0 (d 3 Dx) Dx b.1 ?_;rw[b.2];exact x (m-1) Dx Dx 1 Dx
    .refine⟨0,Dx,?_⟩;have hy:0<(m:Int)/W:=by
      rcases Int.lt_or_le 0 ((m:Int)/W)with h|h
      .exact h
      .have:(m:Int)/W=0:=Dx;rw[this]at E;omega
     have hWm:W<=m:=by have:W*1<=W*((m:Int)/W):=Int.mul_le_mul_of_nonneg_left Dx Dx;omega
     have t:(-1+(m:Int)/W)*W=(m:Int)/W*W-W:=by rw[Int.add_mul];omega
     have b:AU W H ((4*m:Nat):Int) 0=0/\(AF W H ((4*m:Nat):Int) 0).toNat=4*(m-W.toNat)+2:=by have a:=Vs hs (i:=((4*m:Nat):Int)) (e:=0) Dx Dx Dx;rw[u]at a;generalize AF W H ((4*m:Nat):Int) 0=v at*;generalize AU W H ((4*m:Nat):Int) 0=G at*;simp[AV,EI,EK,EM,tb]at a;have c:=a.1.2 Dx;exact⟨c,by rw[a.2 c,t];omega⟩
     refine PR (4*m) 0 Dx Dx b.1 ?_;rw[b.2];exact x (m-W.toNat) Dx Dx 2 Dx
   have w:∀q:Nat,q<4->kn (4*m+q)=true->kn (4*m+(q+1)%4)=true:=by
    intro q f n;have r:∀e:Int,0<=e/\e<3->(AV ⟨(m:Int)%W,(m:Int)/W,q⟩ e=⟨(m:Int)%W,(m:Int)/W,((q+1)%4:Nat)⟩)->kn (4*m+(q+1)%4)=true:=by intro e l I;have a:=Vs hs (i:=((4*m+q:Nat):Int)) (e:=e) Dx (by have:=d q f;omega) l;rw[g q f,I]at a;simp only at a;have c:AU W H ((4*m+q:Nat):Int) e=0:=a.1.2 Dx;have:=step (4*m+q) e l n c;rw[a.2 c]at this;rwa[show (4*((m:Int)/W*W+(m:Int)%W)+(((q+1)%4:Nat):Int)).toNat=4*m+(q+1)%4 from Dx]at this
    rcases(show q=0\/q=1\/q=2\/q=3 from Dx)with rfl|rfl|rfl|rfl
    .exact r 1 Dx Gn
    .exact r 2 Dx Gn
    .exact r 1 Dx Gn
    .exact r 2 Dx Gn
   obtain⟨q,f,n⟩:=one;have k1:=w q f n;have k2:=w _ Dx k1;have k3:=w _ Dx k2;intro s dq;rcases(show s=q\/s=(q+1)%4\/s=((q+1)%4+1)%4\/s=(((q+1)%4+1)%4+1)%4 from Dx)with e|e|e|e<;>(rw[e];assumption)
 intro j A;have:=o (j/4) Dx (j%4) Dx;rwa[show 4*(j/4)+j%4=j from Dx]at this
theorem d1n{s:BS}(hs:AP W H=0)(_:BI W H s)(b:s.wt=[])(c:Vb W H has s)(d:s.kn.getD 0 false=true):∀j:Nat,j<AG W H->s.kn.getD j false=true:=by
 refine b38 (kn:=λj=>s.kn.getD j false) hs (λi e f g k=> ?_) d;rcases c i g with a|a
 .rw[b]at a;cases a
 .exact(a e f k).1
end
theorem b5c{p:Pt}(hs:AP p.W p.H=0)(h:IX p=0):(BA p).length=AG p.W p.H/\∀i:Nat,i<AG p.W p.H->
 (vM ((BA p).getD i AE.d)/\GP ((BA p).getD i AE.d) (AJ p.W p.H i) 1024)/\∀e:Int,0<=e/\e<3->AU p.W p.H i e=0->(BA p).getD (AF p.W p.H i e).toNat AE.d=IG p.W p.H (EF p.l) ((BA p).getD i AE.d) i e:=by
 have hN:=CF hs;have r:FO p=AG p.W p.H:=rfl;unfold IX at h;cases hr:NF p with
 |none=>rw[hr]at h;cases h
 |some l=>
  have s:BA p=l:=by simp[BA,hr]
  rw[s];unfold NF at hr;rw[r]at hr;have t:BI p.W p.H (FJ (AG p.W p.H)):=by
   refine⟨Fn,Fn,λi b=> ?_,λj k=> ?_⟩
   .have:i=0:=by simpa[FJ]using b
    subst this;refine⟨Dx,?_⟩;show ((List.replicate _ false).set 0 true).getD 0 false=true;rw[OG _ _ Dx];rfl
   .have c:((List.replicate (AG p.W p.H) false).set 0 true).getD j false=true:=k;rw[OG _ _ Dx]at c;have:j=0:=Kj c;subst this;have wb:1<=(FJ (AG p.W p.H)).kn.count true:=by
     have:true∈(FJ (AG p.W p.H)).kn:=by show true∈(List.replicate (AG p.W p.H) false).set 0 true;exact List.mem_set E7 _
     exact List.count_pos_iff.2 this
    show vM ((List.replicate _ AE.d).getD 0 AE.d)/\GP ((List.replicate _ AE.d).getD 0 AE.d) _ _;rw[WW];have m:vM AE.d:=⟨E1,E1⟩
    refine⟨m,?_⟩;have zm:=IY hs (i:=((0:Nat):Int)) Dx Dx;have hw:=HB hs;unfold GP;rw[Il m Dx];have u:AJ p.W p.H ((0:Nat):Int)=⟨0,0,0⟩:=by rw[JJ hs Dx Dx];simp
    rw[u];have d0:AE.d=⟨0,0,0⟩:=rfl;rw[d0];simp[sq];try omega
  have v:Vb p.W p.H (EF p.l) (FJ (AG p.W p.H)):=by intro j k;have c:((List.replicate (AG p.W p.H) false).set 0 true).getD j false=true:=k;rw[OG _ _ Dx]at c;have:j=0:=Kj c;subst this;exact .inl Fn
  obtain⟨n,w,f,o,q,x⟩:=c0t hs _ t v hr;have k0:n.kn.getD 0 false=true:=(x 0 (by show ((List.replicate _ false).set 0 true).getD 0 false=true;rw[OG _ _ Dx];rfl)).1
  have a:=d1n hs f o q k0;rw[<-w];refine⟨f.ol,λi b=>⟨⟨(f.kn i (a i b)).1,b9m (f.kn i (a i b)).2 ?_⟩,λe y z=> ?_⟩⟩
  .have:=Xw n.kn;have:=f.kl;omega
  .rcases q i (a i b)with g|g
   .rw[o]at g;cases g
   .have:=(g e y z).2;simpa using this
def Qr:List SV->Option (Prop×Pt×Mv)
 | [x,.agg [.int .u8 t,.int .i64 a,.int .i64 b]]=>(NS x).map λq=>((q.1/\∀c∈q.2.l,AD .u8 c.e)/\0<=t/\t<=255,q.2,⟨t,a,b⟩)
 |_=>none
def prOK(p:Pt)(r:Mv):Prop:=(p.l.length<=100000/\∀c∈p.l,AD .u8 c.e)/\0<=r.t/\r.t<=255
theorem c07{l:List SV}{q:Prop}{p:Pt}{r:Mv}(h:Qr l=some (q,p,r))(b:q):BT l [ID p,OL r]/\prOK p r:=by
 unfold Qr at h;split at h
 .simp only[Ih]at h;obtain⟨⟨a,p'⟩,hx,rfl,rfl,rfl⟩:=h;obtain⟨c,d⟩:=Nl hx b.1.1;exact⟨⟨c,Gk,Ja⟩,⟨d,b.1.2⟩,b.2⟩
 .cases h
theorem f74{k:AK}{a:Pt->Mv->SV}(b:∀l,k l=(Qr l).map λq=>(q.1,a q.2.1 q.2.2)):RI ⟨Pt×Mv,λ(p,r)=>[ID p,OL r],λ(p,r)=>prOK p r,λ(p,r)=>a p r⟩ k:=by intro args pre s h c;rw[b]at h;simp only[Ih]at h;obtain⟨⟨q,p,r⟩,hx,rfl,rfl⟩:=h;obtain⟨d,e⟩:=c07 hx c;exact⟨(p,r),d,e,rfl⟩
def d3r(p:Pt)(r:Mv):SV:=.tup [.sl 3 (BC p r).length (AE.row (BC p r)) none,.int .i64 (Bo p r)]
def c50:AK:=λl=>(Qr l).map λq=>(q.1,d3r q.2.1 q.2.2)
def f8e:Fam:=⟨Pt×Mv,λ(p,r)=>[ID p,OL r],λ(p,r)=>prOK p r,λ(p,r)=>d3r p r⟩
theorem f81:PS 104 c50:=by
 refine con [(82,Um)] (by simpa using f5x) f8e (λ_ _=>none) c50 (f74 (λ_=>rfl)) ?_ Tryz.func104 Dy Dy Dy ?_
 .exact Bx
 .rintro⟨p,r⟩ hp;replace hp:prOK p r:=hp;exact X0h
def d13(p:Pt)(r:Mv):SV:=.tup [.sl 3 (CC p r).length (DE.row (CC p r)) none,.int .i64 (Bo p r)]
def XE:AK:=λl=>(Qr l).map λq=>(q.1,d13 q.2.1 q.2.2)
def f6p:Fam:=⟨Pt×Mv,λ(p,r)=>[ID p,OL r],λ(p,r)=>prOK p r,λ(p,r)=>d13 p r⟩
theorem c45:PS 71 XE:=by
 refine con [(82,Um)] (by simpa using f5x) f6p (λ_ _=>none) XE (f74 (λ_=>rfl)) ?_ Tryz.func71 Dy Dy Dy ?_
 .exact Bx
 .rintro⟨p,r⟩ hp;replace hp:prOK p r:=hp;exact X0h
def Ol(m:Mv):Bool:= !(and (decide (DP m.t m.x m.y=0)) (decide (4<=m.t)))
def CS(p:Pt)(r:Mv):List Bool:=(BC p r).map Ol
theorem c22{p:Pt}{r:Mv}(b:0<=r.t):∀m∈BC p r,0<=m.t/\m.t<=255:=by
 intro m a;unfold BC at a;split at a
 .obtain⟨c,d,rfl⟩:=Js.1 a;exact c6d ((c05 p).2.1 c d).1 b
 .simp at a
theorem b61{p:Pt}{r:Mv}:(BC p r).length<=1024:=by
 unfold BC;split
 .rename_i h;have hs:BG p=0:=by
   unfold Bo at h;split at h
   .assumption
   .rename_i a;exact absurd h a
  have:=(c05 p).2.2;have:=b2s (FI hs).1;simp only[K8];omega
 .simp
def rUp(p:Pt)(r:Mv):SV:=.tup [.sl 1 (CS p r).length (FY.row (CS p r)) none,.int .i64 (Bo p r)]
def kUp:AK:=λl=>(Qr l).map λq=>(q.1,rUp q.2.1 q.2.2)
def FUp:Fam:=⟨Pt×Mv,λ(p,r)=>[ID p,OL r],λ(p,r)=>prOK p r,λ(p,r)=>rUp p r⟩
def IUp:Pt×Mv->Nat->Option Inv
 |(p,r),6=>some {β:=Nat,ok:=λi=>i<=(BC p r).length,st:=λi=>⟨[⟨27,none,.int .i64 i⟩,⟨26,none,.int .i64 (BC p r).length⟩,⟨25,none,.sl 3 (BC p r).length (AE.row (BC p r)) none⟩,⟨9,none,.osl 2⟩,⟨5,none,.int .i64 0⟩],
    [.cells 29 [.int .i64 p.W,.int .i64 p.H,.sl 3 p.l.length (DU p.l) none],.cells 31 [.int .u8 r.t,.int .i64 r.x,.int .i64 r.y],.row 4 1 (BC p r).length (λj=>FY.sv (upto (λj=>Ol ((BC p r).getD j AE.d)) (λ_=>false) i j)) none]⟩,μ:=λi=>(BC p r).length-i}
 |_,_=>none
theorem pUp:PS 44 kUp:=by
 refine con [(82,Um),(45,c5w)] (by simpa using⟨f5x,pFlips⟩) FUp IUp kUp (f74 (λ_=>rfl)) ?_ Tryz.func44 Dy Dy Dy ?_
 .exact Bx
 .rintro⟨p,r⟩ hp;replace hp:prOK p r:=hp;have k:=@b61 p r;have mr:(BC ⟨p.W,p.H,p.l⟩ ⟨r.t,r.x,r.y⟩).length<=1024:=k;have m:Bo p r≠0->BC p r=[]:=λh=>(b29 h).1;have f:(CS p r).length=(BC p r).length:=by simp[CS]
  have b:∀j,j<(BC p r).length->(CS p r).getD j FY.d=Ol ((BC p r).getD j AE.d):=λj a=>by simp[CS,a]
  refine X0a _ ?_;(repeat' first|constructor|intro h)<;>refine Lm ?_
  all_goals(try simp only[CI]at*)
  all_goals(first
   |exact Ba
   |(refine⟨Dx,Dx,Rs Dy Dx Dx,Dx⟩)
   |(rw[f,m (by simpa using ‹(!decide (Bo _ _=0))=true›)];rfl)
   |skip)
  refine⟨(0:Nat),Jj _,?_,?_⟩
  .refine X0a _ ?_;(repeat' first|constructor|intro h)<;>refine Lm ?_
   all_goals(first
    |exact A6
    |(intro j a;show _=FY.sv (upto _ _ 0 j);rw[b6h];rfl)
    |skip)
  .intro i g;replace g:i<=(BC p r).length:=g;have n:i<(BC p r).length->0<=((BC p r).getD i AE.d).t/\((BC p r).getD i AE.d).t<=255:=λh=>by
    rw[J5,J6 h];exact c22 hp.2.1 _ (Kb h)
   refine X0a _ ?_;(repeat' first|constructor|intro h)<;>refine Lm ?_
   all_goals(try simp only[If,c0s _ _ (Jf i),Ig]at*)
   all_goals(first
    |omega
    |exact n Dx
    |exact A4
    |(show i<(BC p r).length;omega)
    |(refine⟨i+1,Ec,Ea,?_⟩)
    |(have e:Bo p r=0:=by assumption
      exact e.symm)
    |exact f.symm
    |(intro j a;show FY.sv _=FY.sv _;rw[b8j _ _ Dx,b j Dx])
    |skip)
   all_goals refine X0a _ ?_;(repeat' first|constructor|intro h)<;>refine Lm ?_
   all_goals(try simp only[])
   all_goals(first
    |exact Aq
    |(intro j a;exact b68 FY (λ_ _=>rfl) (λ_ _=>rfl) (λj=>Ol ((BC p r).getD j AE.d)) _ i j)
    |skip)
theorem WN{p:Pt}{i e:Int}(h:BG p=0)(r:AU p.W p.H i e=0):EF p.l (CR p.W p.H i e)=true↔AZ p i e≠0:=by
 obtain⟨hs,s,h1,h2⟩:=FI h;have t:=b8r h;have u:IK p i e=0:=by simp[IK,h,r]
 have v:LO p i e=LJ p.l (EA p.W p.H i e) (ET p.W p.H i e):=by simp[LO,u]
 unfold AZ CR;rw[v];generalize EA p.W p.H i e=a;generalize ET p.W p.H i e=b;constructor
 .intro w;obtain⟨x,hx,y⟩:=Jp.1 w;obtain⟨j,hj,rfl⟩:=K7.1 hx;have g:a=p.l[j].c/\b=p.l[j].e:=by simpa[FS]using y
  have d:p.l.getD j d0=p.l[j]:=Hf;have m:KR (p.l.getD j d0) a b=0:=by
   rw[d];unfold KR;try unfold Io
   rw[g.1,g.2];simp
  have n:IL p.l a b=j:=c8e p.l j Dx (λk z=>by have:=t k j z hj;rw[d,<-g.1,<-g.2]at this;exact this) (λ_=>Dx)
  have f:LJ p.l a b=true:=by unfold LJ;rw[n];rw[d]at m;simp[hj,m]
  rw[f,n];simp only[N1];have:=Jx.1 s p.l[j] (Kb hj);rw[d];intro A;simp[LG,Qe,A]at this
 .intro q;cases f:LJ p.l a b with
  |false=>rw[f]at q;exact absurd rfl q
  |true=>
   unfold LJ at f;simp only[Ip]at f;have hj:IL p.l a b<p.l.length:=Dx;have d:p.l.getD (IL p.l a b) d0=p.l[IL p.l a b]:=Hf;refine Jp.2 ⟨p.l[IL p.l a b],Kb hj,?_⟩;have o:=f.2;rw[d]at o;have:a=p.l[IL p.l a b].c/\b=p.l[IL p.l a b].e:=by
    unfold KR at o;try unfold Io at o
    split at o<;>omega
   simp[FS,<-this.1,<-this.2]
structure PlOK (p:Pt) (r:Mv):Prop where
 pl:(BC p r).length=AG p.W p.H
 il:(CC p r).length=AG p.W p.H
 vm:∀i:Nat,i<AG p.W p.H->vM ((BC p r).getD i AE.d)
 im:∀i:Nat,i<AG p.W p.H->(CC p r).getD i DE.d=DX ((BC p r).getD i AE.d) (AJ p.W p.H i)/\vC ((CC p r).getD i DE.d)
 pass:∀(i:Nat) (e:Int),i<AG p.W p.H->0<=e/\e<3->AU p.W p.H i e=0->AZ p i e=0->(BC p r).getD (AF p.W p.H i e).toNat AE.d=(BC p r).getD i AE.d
 loop:∀(i:Nat) (e:Int),i<AG p.W p.H->0<=e/\e<3->AU p.W p.H i e=0->AZ p i e≠0->
  (CC p r).getD (AF p.W p.H i e).toNat DE.d=(CC p r).getD i DE.d/\DX ((BC p r).getD (AF p.W p.H i e).toNat AE.d) (AJ p.W p.H i)=DX ((BC p r).getD i AE.d) (AJ p.W p.H (AF p.W p.H i e))
theorem Sg{p:Pt}{r:Mv}(h:Bo p r=0):BG p=0/\DP r.t r.x r.y=0/\IX p=0/\∀i,i<(BA p).length->JI p r i=0:=by
 unfold Bo at h;split at h
 .rename_i a;split at h
  .rename_i c;split at h
   .rename_i b;exact⟨a,c,b,λi hi=>b64 h i Dx Dx⟩
   .rename_i b;exact absurd h b
  .cases h
 .rename_i a;exact absurd h a
theorem f9b{m:Mv}{c:Cl}{K:Int}(a:vM m)(b:(-4200<=c.x/\c.x<=4200)/\(-4200<=c.y/\c.y<=4200)/\0<=c.q/\c.q<=3)(d:GP m c K)(hK:K<=4096):vC (DX m c):=by unfold GP at d;refine⟨Dx,Dx,?_⟩;rw[Il a b];exact f23 (FT a) b.2.2
theorem Oy{p:Pt}{r:Mv}(B:0<=r.t)(h:Bo p r=0):PlOK p r:=by
 obtain⟨E,T,U,V⟩:=Sg h;have hs:=(FI E).1;have hN:=CF hs;obtain⟨X,rel⟩:=b5c hs U;obtain⟨pl,m⟩:=Si h;obtain⟨O,P⟩:=b0j h;rw[X]at pl m O P;have vr:vM r:=⟨B,T⟩
 have f:∀i:Nat,i<AG p.W p.H->Gl ((BA p).getD i AE.d).t ((BA p).getD i AE.d).x ((BA p).getD i AE.d).y r.t r.x r.y=0/\Ry p.W p.H (GX ((BA p).getD i AE.d) r) i=0:=by
  intro i a;have:=V i Dx;unfold JI at this;split at this
  .rename_i z;exact⟨z,this⟩
  .rename_i z;exact absurd this z
 have g:∀(i:Nat) (c:Cl) (K:Int),i<AG p.W p.H->(0<=c.x/\c.x<=300)/\(0<=c.y/\c.y<=300)/\0<=c.q/\c.q<=3->GP ((BA p).getD i AE.d) c K->K<=4096->DX (GX ((BA p).getD i AE.d) r) c=DX r (DX ((BA p).getD i AE.d) c):=by intro i c K a u j Y;obtain⟨⟨A,_⟩,_⟩:=rel i a;exact b9b A.1 B (f i a).1 G1 (f9b A Dx j Y)
 have b:∀i:Int,0<=i->i<4*p.W*p.H->(0<=(AJ p.W p.H i).x/\(AJ p.W p.H i).x<=300)/\(0<=(AJ p.W p.H i).y/\(AJ p.W p.H i).y<=300)/\0<=(AJ p.W p.H i).q/\(AJ p.W p.H i).q<=3:=λi Z z=>PH hs Z z;have o:∀i:Nat,i<AG p.W p.H->(CC p r).getD i DE.d=DX ((BC p r).getD i AE.d) (AJ p.W p.H i)/\vC ((CC p r).getD i DE.d):=by
  intro i a;rw[P i a,m i a];have v:=(f i a).2;have Q:WY p r i=DX (KJ p r i) (AJ p.W p.H i):=by unfold WY imC KJ DX AJ;simp only[v,keep,Kp]
  refine⟨Q,?_⟩;rw[Q];have F:vM (KJ p r i):=(Vk (rel i a).1.1.1 B (f i a).1).2.2.2;unfold Ry HG at v;have hw:=b i Dx Dx;split at v
  .split at v
   .rename_i h3;have G:EC (DX (KJ p r i) (AJ p.W p.H i)).x (DX (KJ p r i) (AJ p.W p.H i)).y (DX (KJ p r i) (AJ p.W p.H i)).q=0:=h3;unfold EC at G;split at G
    .rename_i h5;refine⟨Dx,Dx,?_⟩;rw[Il F Dx];exact f23 (FT F) hw.2.2
    .cases G
   .cases v
  .cases v
 refine⟨pl,O,λi a=> ?_,o,λi e a n j I=> ?_,λi e a n j I=> ?_⟩
 .rw[m i a];exact(Vk (rel i a).1.1.1 B (f i a).1).2.2.2
 .obtain⟨⟨J,L⟩,C⟩:=GH hs (i:=i) Dx Dx n j;have u:EF p.l (CR p.W p.H i e)=false:=by
   cases u:EF p.l (CR p.W p.H i e)with
   |false=>rfl
   |true=>exact absurd I ((WN E j).1 u)
  have:=(rel i a).2 e n j;rw[b2i hs Dx Dx n j,u]at this;rw[m _ Dx,m i a];unfold KJ;rw[this];rfl
 .obtain⟨⟨J,L⟩,C⟩:=GH hs (i:=i) Dx Dx n j;have u:=(WN E j).2 I;have hx:=(rel i a).2 e n j;rw[b2i hs Dx Dx n j,u]at hx;simp only[N1]at hx;obtain⟨⟨A,k⟩,_⟩:=rel i a;have w:(AF p.W p.H i e).toNat<AG p.W p.H:=Dx;obtain⟨⟨F,nr2⟩,_⟩:=rel _ w;obtain⟨g1,R,M⟩:=c2c n (b i Dx Dx) A k Dx;rw[<-hx]at g1 R M;have N:=c79 n (b i Dx Dx) A k;have s:(((AF p.W p.H i e).toNat:Nat):Int)=AF p.W p.H i e:=Dx;have q1:GP ((BA p).getD (AF p.W p.H i e).toNat AE.d) (AJ p.W p.H i) 1025:=by
   unfold GP at N⊢;rw[M];exact N
  have S:DX ((BA p).getD (AF p.W p.H i e).toNat AE.d) (AJ p.W p.H (AF p.W p.H i e))=DX ((BA p).getD i AE.d) (AJ p.W p.H i):=by rw[C];exact R
  have q3:GP ((BA p).getD (AF p.W p.H i e).toNat AE.d) (AJ p.W p.H (AF p.W p.H i e)) 1024:=by unfold GP at k⊢;rw[S];exact k
  refine⟨?_,?_⟩
  .rw[(o _ w).1,(o i a).1,s,m _ w,m i a];unfold KJ;rw[g _ _ 1024 w (b _ J L) q3 Dx,S,g i _ 1024 a (b i Dx Dx) k Dx]
  .rw[m _ w,m i a];unfold KJ;rw[g _ _ 1025 w (b i Dx Dx) q1 Dx,M,g i _ 1025 a (b _ J L) (by rw[C];exact N) Dx,C]
def Oj(P:Int->Bool)(l:List Int):Int:=match l.findIdx? P with
 |some i=>i
 |none=> -1
theorem b9n{P:Int->Bool}{l:List Int}{i:Nat}(hi:i<l.length)(h:∀j,j<i->P (l.getD j 0)=false)(a:P (l.getD i 0)=true):Oj P l=i:=by
 have:l.findIdx? P=some i:=by
  rw[L1];refine⟨hi,?_,λj b=> ?_⟩
  .simpa[J5,hi]using a
  .have:=h j b;have c:j<l.length:=Dx;simpa[J5,c]using this
 simp[Oj,this]
theorem d73{P:Int->Bool}{l:List Int}(h:∀j,j<l.length->P (l.getD j 0)=false):Oj P l= -1:=by
 have:l.findIdx? P=none:=by rw[Lg];intro x hx;obtain⟨j,a,rfl⟩:=K7.1 hx;have:=h j a;simpa[J5,a]using this
 simp[Oj,this]
theorem b8k(P:Int->Bool)(l:List Int):decide (0<=Oj P l)=l.any P:=by
 unfold Oj;cases h:l.findIdx? P with
 |none=>
  have:=Lg.1 h;have:l.any P=false:=by rw[Jx];intro x hx;simpa using this x hx
  rw[this];rfl
 |some i=>
  have:=L1.1 h;obtain⟨a,b,_⟩:=this;have:l.any P=true:=Jp.2 ⟨_,Kb a,b⟩;rw[this];simp
def Yl:SV->Option (Prop×Int)
 |.rel 1 1 f 0 0=>match f 0 with
  | [.int .i64 n]=>some (f=(λ_=>[.int .i64 n]),n)
  |_=>none
 |_=>none
def WQ(n:Int):SV:=.rel 1 1 (λ_=>[.int .i64 n]) 0 0
theorem c47{s:SV}{q:Prop}{n:Int}(h:Yl s=some (q,n))(a:q):s=WQ n:=by
 unfold Yl at h;split at h
 .split at h
  .cases h;rw[a];rfl
  .cases h
 .cases h
def Ll(n v:Int):Bool:=decide (v<0)||decide (v>=n)
def b95:AK
 | [.int .i64 v,s]=>(Yl s).map λn=>(n.1,.bool (Ll n.2 v))
 |_=>none
def g07:Fam:=⟨Int×Int,λ(v,n)=>[.int .i64 v,WQ n],λ_=>True,λ(v,n)=>.bool (Ll n v)⟩
theorem g1f:PS 168 b95:=by
 refine con [] Dz g07 (λ_ _=>none) b95 ?_ ?_ Tryz.func168 Dy Dy Dy ?_
 .intro args pre s h a;unfold b95 at h;split at h
  .rename_i v x;simp only[Jc]at h;obtain⟨⟨q,n⟩,hx,b⟩:=h;cases b;rw[c47 hx a];exact⟨(v,n),⟨E6,by simp[WQ,SV.le2,SV.le1,SV.le0],Ja⟩,Ja,rfl⟩
  .cases h
 .exact Bx
 .rintro⟨v,n⟩ a;refine X0a _ ?_;(repeat' first|constructor|intro h)<;>refine Lm ?_
  all_goals(first|rfl|skip)
def b8w:AK
 | [x,.clo g [c]]=>if g=168 then(match AC.as x with
   |some (n,f)=>(Yl c).map λm=>(m.1/\AC.isL n f/\n<=100000,.int .i64 (Oj (Ll m.2) (AC.lst n f)))
   |none=>none)else none
 |_=>none
def d20:Fam:=⟨List Int×Int,λ(l,m)=>[.sl 1 l.length (AC.row l) none,.clo 168 [WQ m]],λ(l,_)=>l.length<=100000,λ(l,m)=>.int .i64 (Oj (Ll m) l)⟩
def f80:List Int×Int->Nat->Option Inv
 |(l,m),2=>some {β:=Nat,ok:=λi=>i<=l.length/\∀j,j<i->Ll m (l.getD j 0)=false,st:=λi=>⟨[⟨8,none,.int .i64 i⟩,⟨7,none,.int .i64 l.length⟩,⟨1,none,.clo 168 [WQ m]⟩,⟨0,none,.sl 1 l.length (AC.row l) none⟩],[]⟩,μ:=λi=>l.length-i}
 |_,_=>none
theorem f72:PS 169 b8w:=by
 refine con [(168,b95)] (by simpa using g1f) d20 f80 b8w ?_ ?_ Tryz.func169 Dy Dy Dy ?_
 .intro args pre s h a;unfold b8w at h;split at h
  .split at h
   .rename_i c;subst c;split at h
    .rename_i n f hx;simp only[Jc]at h;obtain⟨⟨q,m⟩,d,g⟩:=h;cases g;rw[c47 d a.1];exact⟨(AC.lst n f,m),⟨IW (AC.as_leL hx a.2.1),⟨rfl,rfl⟩,Ja⟩,by simp only[d20,RT.lst_length];exact a.2.2,rfl⟩
    .cases h
   .cases h
  .cases h
 .exact Bx
 .rintro⟨l,m⟩ a;replace a:l.length<=100000:=a;refine X0a _ ?_;(repeat' first|constructor|intro h)<;>refine Lm ?_
  refine⟨(0:Nat),⟨Jj _,λj hj=>Dx⟩,?_,?_⟩
  .exact X0d
  .intro i k;obtain⟨f7,bv⟩:=k;refine X0a _ ?_;(repeat' first|constructor|intro h)<;>refine Lm ?_
   all_goals(try simp only[If]at*)
   all_goals(first
    |exact Ak
    |rfl
    |exact(b9n Dx bv E2).symm
    |(refine⟨i+1,⟨Dx,λj hj=> ?_⟩,Ea,?_⟩)
    |exact Bp
    |skip)
   .by_cases e:j<i
    .exact bv j e
    .have:j=i:=Dx;subst this;assumption
   .exact X0e
def b93:AK
 | [x,.clo g [c]]=>if g=168 then(match AC.as x with
   |some (n,f)=>(Yl c).map λm=>(m.1/\AC.isL n f/\n<=100000,.bool ((AC.lst n f).any (Ll m.2)))
   |none=>none)else none
 |_=>none
def d4z:Fam:=⟨List Int×Int,λ(l,m)=>[.sl 1 l.length (AC.row l) none,.clo 168 [WQ m]],λ(l,_)=>l.length<=100000,λ(l,m)=>.bool (l.any (Ll m))⟩
theorem g19:PS 127 b93:=by
 refine con [(169,b8w)] (by simpa using f72) d4z (λ_ _=>none) b93 ?_ ?_ Tryz.func127 Dy Dy Dy ?_
 .intro args pre s h a;unfold b93 at h;split at h
  .split at h
   .rename_i b;subst b;split at h
    .rename_i n f hx;simp only[Jc]at h;obtain⟨⟨q,m⟩,c,d⟩:=h;cases d;rw[c47 c a.1];exact⟨(AC.lst n f,m),⟨IW (AC.as_leL hx a.2.1),⟨rfl,rfl⟩,Ja⟩,by simp only[d4z,RT.lst_length];exact a.2.2,rfl⟩
    .cases h
   .cases h
  .cases h
 .exact Bx
 .rintro⟨l,m⟩ a;replace a:l.length<=100000:=a;refine X0a _ ?_;(repeat' first|constructor|intro h)<;>refine Lm ?_
  all_goals(try simp only[RT.lst_row]at*)
  all_goals(first
   |exact⟨Ja,AC.isL_row l,a⟩
   |exact b8k _ _
   |skip)
def Ao(L:List Stk):List Int:=L.flatMap (·.l)
def IZ(n:Int)(L:List Stk)(i:Nat):Bool:=
 (!decide (EC (L.getD i AA.d).c.x (L.getD i AA.d).c.y (L.getD i AA.d).c.q=0)||decide (0<(i:Int))&&decide (0<=FQ (L.getD ((i:Int)-1).toNat AA.d).c.x (L.getD ((i:Int)-1).toNat AA.d).c.y (L.getD ((i:Int)-1).toNat AA.d).c.q (L.getD i AA.d).c.x (L.getD i AA.d).c.y (L.getD i AA.d).c.q)||decide (((L.getD i AA.d).l.length:Int)=0))||(L.getD i AA.d).l.any (Ll n)
def JN:List Int->Bool
 | []=>false
 |x::l=>l.contains x||JN l
def HE(W H:Int)(L:List Stk):Int:=
 if AP W H=0 then(if(List.range L.length).any (IZ (DS W H) L)then 1 else if JN (Ao L)then 8 else if((Ao L).length:Int)<DS W H then 6 else 0)else AP W H
def HZ(L:List Stk)(i k:Nat):List Int:=Ao (L.take i)++(L.getD i AA.d).l.take k
def Xo(W H:Int)(L:List Stk):Int:=if JN (Ao L)then 8 else if((Ao L).length:Int)<DS W H then 6 else 0
def c3h(W H:Int)(L:List Stk):Prop:=∀i,i<L.length->∀v∈(L.getD i AA.d).l,0<=v/\v<DS W H
def ownC(W H:Int)(l:List Int):List Blk:=[.cells 26 [.int .i64 W,.int .i64 H],.cells 3 [.int .i64 (DS W H)],.row 4 1 (DS W H).toNat (λj=>[.bool (l.contains (j:Int))]) none]
theorem c81(L:List Stk)(i:Nat):HZ L i 0=Ao (L.take i):=by simp[HZ]
theorem d8h{L:List Stk}{i:Nat}(hi:i<L.length):HZ L i (L.getD i AA.d).l.length=HZ L (i+1) 0:=by
 rw[c81];have:L.take (i+1)=L.take i++[L.getD i AA.d]:=by rw[Mb];simp[hi]
 simp[HZ,Ao,this]
theorem c5p{L:List Stk}{i k:Nat}(a:k<(L.getD i AA.d).l.length):HZ L i (k+1)=HZ L i k++[(L.getD i AA.d).l.getD k 0]:=by unfold HZ;rw[Mb,Ma];congr 1;rw[J5 (l:=(L.getD i AA.d).l),J6 a];simp
theorem d7b(L:List Stk):HZ L L.length 0=Ao L:=by simp[c81]
theorem d3m{L:List Stk}{i k:Nat}(hi:i<L.length):∃m,Ao L=HZ L i k++m:=by
 have a:L=L.take i++L.getD i AA.d::L.drop (i+1):=by have:=List.take_append_drop i L;rw[List.drop_eq_getElem_cons hi]at this;simp[hi]
 refine⟨(L.getD i AA.d).l.drop k++Ao (L.drop (i+1)),?_⟩;have b:Ao L=Ao (L.take i)++((L.getD i AA.d).l++Ao (L.drop (i+1))):=by
  conv=>lhs;rw[a]
  simp[Ao]
 rw[b];unfold HZ;rw[Ma,<-Ma (List.take k _),List.take_append_drop]
theorem c1t(l:List Int)(x:Int):JN (l++[x])=(JN l||l.contains x):=by
 induction l with
 |nil=>rfl
 |cons a r c=>
  simp only[Mh,JN,c,List.contains_cons];have:(r++[x]).contains a=(r.contains a||a==x):=by rw[Ls];simp
  rw[this];cases r.contains a<;>cases JN r<;>cases r.contains x<;>simp[BEq.comm (a:=a) (b:=x)]
theorem d8g{l:List Int}(m:List Int)(h:JN l=true):JN (l++m)=true:=by
 induction l with
 |nil=>cases h
 |cons a r b=>
  simp only[Mh,JN,Kd]at h⊢;rcases h with h|h
  .left;simp at h⊢;exact .inl h
  .exact .inr (b h)
def b4j:AK
 | [x,.agg [.int .i64 W,.int .i64 H]]=>(LI x).map λq=>(q.1/\(∀s∈q.2,AD .u8 s.c.q)/\(Ao q.2).length<=100000,.int .i64 (HE W H q.2))
 |_=>none
def f1g:Fam:=⟨List Stk×Int×Int,λ(L,W,H)=>[FN L,.agg [.int .i64 W,.int .i64 H]],λ(L,_,_)=>FX L/\(∀s∈L,AD .u8 s.c.q)/\(Ao L).length<=100000,λ(L,W,H)=>.int .i64 (HE W H L)⟩
def d7r:List Stk×Int×Int->Nat->Option Inv
 |(L,W,H),6=>some {β:=Nat,ok:=λi=>i<=L.length/\∀j,j<i->IZ (DS W H) L j=false,st:=λi=>⟨[⟨25,none,.int .i64 i⟩,⟨24,none,.int .i64 L.length⟩,⟨23,none,.sl 4 L.length (AA.row L) none⟩,⟨6,none,.own 1 0⟩,⟨4,none,.int .i64 0⟩,⟨0,none,.sl 4 L.length (AA.row L) none⟩],[.cells 26 [.int .i64 W,.int .i64 H],.cells 3 [.int .i64 (DS W H)]]⟩,μ:=λi=>L.length-i}
 |(L,W,H),15=>some {β:=Nat,ok:=λi=>i<=L.length/\JN (HZ L i 0)=false/\HE W H L=Xo W H L/\c3h W H L,st:=λi=>⟨[⟨68,none,.int .i64 i⟩,⟨67,none,.int .i64 L.length⟩,⟨66,none,.sl 4 L.length (AA.row L) none⟩,⟨11,none,.int .i64 (HZ L i 0).length⟩,⟨10,none,.osl 2⟩,⟨6,none,.own 1 0⟩,⟨4,none,.int .i64 0⟩],ownC W H (HZ L i 0)⟩,μ:=λi=>L.length-i,sub:=λi=>some fun|18=>some {β:=Nat,ok:=λk=>k<=(L.getD i AA.d).l.length/\JN (HZ L i k)=false,st:=λk=>⟨[⟨75,none,.int .i64 k⟩,⟨74,none,.int .i64 (L.getD i AA.d).l.length⟩,⟨73,none,.sl 1 (L.getD i AA.d).l.length (AC.row (L.getD i AA.d).l) none⟩,⟨68,none,.int .i64 i⟩,⟨67,none,.int .i64 L.length⟩,⟨66,none,.sl 4 L.length (AA.row L) none⟩,⟨11,none,.int .i64 (HZ L i k).length⟩,⟨10,none,.osl 2⟩,⟨6,none,.own 1 0⟩,⟨4,none,.int .i64 0⟩],ownC W H (HZ L i k)++[.cells 41 [.int .i64 (L.getD i AA.d).c.x,.int .i64 (L.getD i AA.d).c.y,.int .u8 (L.getD i AA.d).c.q,.sl 1 (L.getD i AA.d).l.length (AC.row (L.getD i AA.d).l) none]]⟩,μ:=λk=>(L.getD i AA.d).l.length-k}|_=>none}
 |_,_=>none
theorem f01:PS 126 b4j:=by
 refine con [(96,Pu),(103,VN),(123,Qm),(100,Ro),(127,b93)] (by simpa using⟨TY,d36,Uk,b11,g19⟩) f1g d7r b4j ?_ ?_ Tryz.func126 Dy Dy Dy ?_
 .intro args pre s h a;unfold b4j at h;split at h
  .rename_i x W H;simp only[Ih]at h;obtain⟨⟨q,L⟩,hx,rfl,rfl⟩:=h;obtain⟨J,K⟩:=Py hx a.1;exact⟨(L,W,H),⟨J,Ed,Ja⟩,⟨K,a.2⟩,rfl⟩
  .cases h
 .exact Bx
 .rintro⟨L,W,H⟩ a;replace a:FX L/\(∀s∈L,AD .u8 s.c.q)/\(Ao L).length<=100000:=a;have hc:0<=DS W H/\DS W H<=1024:=by
   unfold DS;split
   .have:=QP ‹_›;have e:4*W*H=4*(W*H):=M0 _ _ _;omega
   .omega
  have hl:=a.1.1;refine X0a _ ?_;(repeat' first|constructor|intro h)<;>refine Lm ?_
  .have M:¬AP W H=0:=E4;unfold HE;rw[J8 M]
  .refine⟨(0:Nat),⟨Jj _,λj hj=>Dx⟩,?_,?_⟩
   .exact X0d
   .intro i t;obtain⟨N,g⟩:=t;have u:=Su a.1 i;have hg2:=Su a.1 (i-1);have w:∀k,AD .u8 (L.getD k AA.d).c.q:=λk=>by
     rw[J5];cases y:L[k]? with
     |none=>exact(by simp only[AD];decide:AD .u8 0)
     |some s=>exact a.2.1 s (Jb y)
    refine X0a _ ?_;(repeat' first|constructor|intro h)<;>refine Lm ?_
    all_goals(try simp only[If,RT.lst_row]at*)
    all_goals(first
     |omega
     |exact u
     |exact⟨rfl,AC.isL_row _,u⟩
     |exact w _
     |exact As
     |exact An
     |exact A4
     |(rintro⟨_,hx⟩;have hx:=Kj hx;simp only[AD];omega)
     |(rintro⟨_,hx⟩;have hx:=Kj hx;omega)
     |(rintro⟨_,hx⟩;exact⟨w _,w _⟩)
     |skip)
    .have n:IZ (DS W H) L i=true:=E2;have hs:AP W H=0:=I5;have:(List.range L.length).any (IZ (DS W H) L)=true:=Jp.2 ⟨i,Ka.2 Dx,n⟩;unfold HE;rw[J7 hs,J7 this]
    .have n:IZ (DS W H) L i=false:=E2;refine⟨i+1,⟨Dx,λj hj=> ?_⟩,Dx,?_⟩
     .by_cases e:j<i
      .exact g j e
      .have:j=i:=Dx;subst this;exact n
     .exact X0e
    .refine⟨Dx,Dx,Rs Dy Dx Dx,Dx⟩
    .have hs:AP W H=0:=I5;have O:(List.range L.length).any (IZ (DS W H) L)=false:=by
      rw[Jx];intro j hj;have:=g j Hb;simp[this]
     have P:HE W H L=Xo W H L:=by unfold HE;rw[J7 hs,J8 (by simp[O])];rfl
     have Q:c3h W H L:=by intro j hj v o;have n:=g j Dx;unfold IZ at n;rw[Lt]at n;have:=Jx.1 n.2 v o;simp[Ll]at this;omega
     refine⟨(0:Nat),⟨Jj _,rfl,P,Q⟩,?_,?_⟩
     .exact X0e
     .intro i t;obtain⟨N,g,r,F⟩:=t;have u:=Su a.1 i;refine X0a _ ?_;(repeat' first|constructor|intro h)<;>refine Lm ?_
      all_goals(try simp only[If]at*)
      all_goals(first
       |omega
       |exact As
       |skip)
      .have f:i<L.length:=Dx;refine⟨(0:Nat),⟨Jj _,g⟩,?_,?_⟩
       .exact X0e
       .intro k y;obtain⟨j9,G⟩:=y;obtain⟨m,R⟩:=d3m (k:=k) f;have Y4:(HZ L i k).length<=100000:=by
         have:=a.2.2;rw[R,K5]at this;omega
        have o:k<(L.getD i AA.d).l.length->0<=(L.getD i AA.d).l.getD k AC.d/\(L.getD i AA.d).l.getD k AC.d<DS W H:=λh=>F i f _ (by rw[J5 (l:=(L.getD i AA.d).l),J6 h];exact Kb h)
        refine X0a _ ?_;(repeat' first|constructor|intro h)<;>refine Lm ?_
        all_goals(try simp only[If]at*)
        all_goals(first
         |omega
         |exact As
         |(have:=o Dx;omega)
         |(show ((L.getD i AA.d).l.getD k AC.d).toNat<(DS W H).toNat;have:=o Dx;omega)
         |skip)
        .have S:=o Dx;rw[show ((((L.getD i AA.d).l.getD k AC.d).toNat:Nat):Int)=(L.getD i AA.d).l.getD k AC.d from Dx]at*;obtain⟨T,U⟩:=d3m (k:=k+1) f;rw[r];unfold Xo;rw[J7];rw[U];refine d8g T ?_;rw[c5p Dx,c1t];rw[Kd];right;assumption
        .have S:=o Dx;rw[show ((((L.getD i AA.d).l.getD k AC.d).toNat:Nat):Int)=(L.getD i AA.d).l.getD k AC.d from Dx]at*;have V:(HZ L i k).contains ((L.getD i AA.d).l.getD k AC.d)=false:=E2;have z:=c5p (L:=L) (i:=i) (k:=k) Dx;refine⟨k+1,⟨Dx,?_⟩,Dx,?_⟩
         .rw[z,c1t,G,Ng];exact V
         .refine X0a _ ?_;(repeat' first|constructor|intro h)<;>refine Lm ?_
          all_goals first
           |exact Aw
           |(rw[z,K5];rfl)
           |skip
          intro j hj;rw[z];by_cases I:j=((L.getD i AA.d).l.getD k AC.d).toNat
          .have A:(j:Int)=(L.getD i AA.d).l.getD k AC.d:=Dx;have B:((HZ L i k)++[(L.getD i AA.d).l.getD k 0]).contains ((L.getD i AA.d).l.getD k AC.d)=true:=by
            rw[Ni,Jh,Jt];exact .inr (Jw.2 rfl)
           rw[Jr I,A,B];rfl
          .have A:¬(j:Int)=(L.getD i AA.d).l.getD k AC.d:=Dx;rw[Jq I];have B:((HZ L i k)++[(L.getD i AA.d).l.getD k 0]).contains (j:Int)=(HZ L i k).contains (j:Int):=by
            rw[Ls];have X:¬(j:Int)=(L.getD i AA.d).l.getD k 0:=A;simp only[Ni,Jt,Jw,Jh,X,or_false]
           rw[B];rfl
        .have C:k=(L.getD i AA.d).l.length:=Dx;subst C;have E:=d8h f;refine⟨i+1,⟨Dx,by rw[<-E];exact G,r,F⟩,Dx,?_⟩;refine X0a _ ?_;(repeat' first|constructor|intro h)<;>refine Lm ?_
         all_goals first
          |exact Aw
          |(rw[E];done)
          |(intro j hj;rw[E];done)
          |skip
      .have f:i=L.length:=Dx;subst f;rw[d7b]at*;rw[r];unfold Xo;rw[J8 (by simp[g]),J7 E2]
      .have f:i=L.length:=Dx;subst f;rw[d7b]at*;rw[r];unfold Xo;rw[J8 (by simp[g]),J8 E2]
def capI:SV->Option (Prop×List Cl×Option Nat)
 |.rel 1 1 f 0 0=>match f 0 with
  | [.sl 3 n g a]=>some (f=(λ_=>[.sl 3 n g a])/\g=DE.row (DE.lst n g),DE.lst n g,a)
  |_=>none
 |_=>none
def Tn(l:List Cl)(a:Option Nat):SV:=.rel 1 1 (λ_=>[.sl 3 l.length (DE.row l) a]) 0 0
theorem c49{s:SV}{q:Prop}{l:List Cl}{a:Option Nat}(h:capI s=some (q,l,a))(b:q):s=Tn l a:=by
 unfold capI at h;split at h
 .split at h
  .cases h;obtain⟨c,d⟩:=b;rw[c];unfold Tn;rw[RT.lst_length,<-d]
  .cases h
 .cases h
def Wy:SV->Option (Prop×Cl×SV)
 |.rel 4 1 f 0 0=>match f 0 with
  | [.int .i64 a,.int .i64 b,.int .u8 c,z]=>some (f=(λ_=>[.int .i64 a,.int .i64 b,.int .u8 c,z]),⟨a,b,c⟩,z)
  |_=>none
 |_=>none
def Uy(c:Cl)(z:SV):SV:=.rel 4 1 (λ_=>[.int .i64 c.x,.int .i64 c.y,.int .u8 c.q,z]) 0 0
theorem c3p{s:SV}{q:Prop}{c:Cl}{z:SV}(h:Wy s=some (q,c,z))(a:q):s=Uy c z:=by
 unfold Wy at h;split at h
 .split at h
  .cases h;rw[a];rfl
  .cases h
 .cases h
def NT(a:List Cl)(c:Cl)(v:Int):Bool:= !decide (a.getD v.toNat DE.d=c)
def b90:AK
 | [.int .i64 v,s,t]=>match capI s,Wy t with
   |some (q,a,_),some (b,c,_)=>some ((q/\b)/\0<=v/\v<a.length,.bool (NT a c v))
   |_,_=>none
 |_=>none
def g0m:Fam:=⟨Int×(List Cl×Option Nat)×Cl×SV,λ(v,(a,b),c,z)=>[.int .i64 v,Tn a b,Uy c z],λ(v,(a,_),_,_)=>0<=v/\v<a.length,λ(v,(a,_),c,_)=>.bool (NT a c v)⟩
theorem f9e:PS 128 b90:=by
 refine con [] Dz g0m (λ_ _=>none) b90 ?_ ?_ Tryz.func128 Dy Dy Dy ?_
 .intro args pre s h a;unfold b90 at h;split at h
  .rename_i v x1 x2;split at h
   .rename_i q b d q' c z e f;cases h;rw[c49 e a.1.1,c3p f a.1.2];exact⟨(v,(b,d),c,z),⟨E6,by simp[Tn,SV.le2,SV.le1,SV.le0],by simp[Uy,SV.le2,SV.le1,SV.le0],Ja⟩,a.2,rfl⟩
   .cases h
  .cases h
 .exact Bz
 .rintro⟨v,⟨b,d⟩,c,z⟩ a;replace a:0<=v/\v<b.length:=a;refine X0a _ ?_;(repeat' first|constructor|intro h)<;>refine Lm ?_
  all_goals(first
   |exact a
   |(show v.toNat<b.length;omega)
   |(simp only[NT,clEq];done)
   |skip)
def b9e:AK
 | [x,.clo g [s,t]]=>if g=128 then(match AC.as x,capI s,Wy t with
   |some (n,f),some (q,a,_),some (b,c,_)=>some ((q/\b)/\(AC.isL n f/\n<=100000)/\∀v∈AC.lst n f,0<=v/\v<a.length,.int .i64 (Oj (NT a c) (AC.lst n f)))
   |_,_,_=>none)else none
 |_=>none
def f6u:Fam:=⟨List Int×(List Cl×Option Nat)×Cl×SV,λ(l,(a,b),c,z)=>[.sl 1 l.length (AC.row l) none,.clo 128 [Tn a b,Uy c z]],λ(l,(a,_),_,_)=>l.length<=100000/\∀v∈l,0<=v/\v<a.length,λ(l,(a,_),c,_)=>.int .i64 (Oj (NT a c) l)⟩
def f65:List Int×(List Cl×Option Nat)×Cl×SV->Nat->Option Inv
 |(l,(a,b),c,z),2=>some {β:=Nat,ok:=λi=>i<=l.length/\∀j,j<i->NT a c (l.getD j 0)=false,st:=λi=>⟨[⟨8,none,.int .i64 i⟩,⟨7,none,.int .i64 l.length⟩,⟨1,none,.clo 128 [Tn a b,Uy c z]⟩,⟨0,none,.sl 1 l.length (AC.row l) none⟩],[]⟩,μ:=λi=>l.length-i}
 |_,_=>none
theorem f6j:PS 169 b9e:=by
 refine con [(128,b90)] (by simpa using f9e) f6u f65 b9e ?_ ?_ Tryz.func169 Dy Dy Dy ?_
 .intro args pre s h hp;unfold b9e at h;split at h
  .split at h
   .rename_i g;subst g;split at h
    .rename_i n f q im cp q' c z hx k m;cases h;rw[c49 k hp.1.1,c3p m hp.1.2];exact Dn
    .cases h
   .cases h
  .cases h
 .exact Bx
 .rintro⟨l,⟨im,cp⟩,c,z⟩ hp;replace hp:l.length<=100000/\∀v∈l,0<=v/\v<im.length:=hp;refine X0a _ ?_;(repeat' first|constructor|intro h)<;>refine Lm ?_
  refine⟨(0:Nat),⟨Jj _,λj hj=>Dx⟩,?_,?_⟩
  .exact X0d
  .intro i o;obtain⟨f7,bv⟩:=o;have b:i<l.length->0<=l.getD i AC.d/\l.getD i AC.d<im.length:=λh=>hp.2 _ (by
    rw[J5,J6 h];exact Kb h)
   refine X0a _ ?_;(repeat' first|constructor|intro h)<;>refine Lm ?_
   all_goals(try simp only[If,RT.lst_row]at*)
   all_goals(first
    |exact Ak
    |rfl
    |exact⟨⟨⟨Ja,Ja⟩,Ja⟩,b Dx⟩
    |exact⟨⟨⟨rfl,rfl⟩,rfl⟩,b Dx⟩
    |exact(b9n Dx bv E2).symm
    |(refine⟨i+1,⟨Dx,λj hj=> ?_⟩,Ea,?_⟩)
    |exact Bp
    |skip)
   .by_cases e:j<i
    .exact bv j e
    .have:j=i:=Dx;subst this;assumption
   .exact X0e
def b8p:AK
 | [x,.clo g [s,t]]=>if g=128 then(match AC.as x,capI s,Wy t with
   |some (n,f),some (q,a,_),some (b,c,_)=>some ((q/\b)/\(AC.isL n f/\n<=100000)/\∀v∈AC.lst n f,0<=v/\v<a.length,.bool ((AC.lst n f).any (NT a c)))
   |_,_,_=>none)else none
 |_=>none
def f9x:Fam:=⟨List Int×(List Cl×Option Nat)×Cl×SV,λ(l,(a,b),c,z)=>[.sl 1 l.length (AC.row l) none,.clo 128 [Tn a b,Uy c z]],λ(l,(a,_),_,_)=>l.length<=100000/\∀v∈l,0<=v/\v<a.length,λ(l,(a,_),c,_)=>.bool (l.any (NT a c))⟩
theorem g0i:PS 127 b8p:=by
 refine con [(169,b9e)] (by simpa using f6j) f9x (λ_ _=>none) b8p ?_ ?_ Tryz.func127 Dy Dy Dy ?_
 .intro args pre s h hp;unfold b8p at h;split at h
  .split at h
   .rename_i a;subst a;split at h
    .rename_i n f q im cp q' c z hx b d;cases h;rw[c49 b hp.1.1,c3p d hp.1.2];exact Dn
    .cases h
   .cases h
  .cases h
 .exact Bx
 .rintro⟨l,⟨im,cp⟩,c,z⟩ hp;replace hp:l.length<=100000/\∀v∈l,0<=v/\v<im.length:=hp;refine X0a _ ?_;(repeat' first|constructor|intro h)<;>refine Lm ?_
  all_goals(try simp only[RT.lst_row]at*)
  all_goals(first
   |exact⟨⟨⟨Ja,Ja⟩,Ja⟩,⟨AC.isL_row l,hp.1⟩,hp.2⟩
   |exact⟨⟨⟨rfl,rfl⟩,rfl⟩,⟨AC.isL_row l,hp.1⟩,hp.2⟩
   |exact b8k _ _
   |skip)
theorem b7m{W H:Int}{L:List Stk}(h:HE W H L=0):AP W H=0/\(∀i,i<L.length->IZ (DS W H) L i=false)/\JN (Ao L)=false/\DS W H<=(Ao L).length:=by
 unfold HE at h;split at h
 .rename_i hs;split at h
  .cases h
  .rename_i a;split at h
   .cases h
   .rename_i b;split at h
    .cases h
    .refine⟨hs,λi c=> ?_,by simpa using b,Dx⟩;have:=Jx.1 (by simpa using a:(List.range L.length).any (IZ (DS W H) L)=false) i (Ka.2 c);simpa using this
 .rename_i hs;exact absurd h hs
theorem c10{W H:Int}{L:List Stk}(h:∀i,i<L.length->IZ (DS W H) L i=false):c3h W H L:=by intro j b v c;have a:=h j b;unfold IZ at a;rw[Lt]at a;have:=Jx.1 a.2 v c;simp[Ll]at this;omega
theorem im_len{p:Pt}{r:Mv}(h:Bo p r=0):((CC p r).length:Int)=DS p.W p.H:=by
 have c:BG p=0/\IX p=0:=by
  unfold Bo at h;split at h
  .rename_i a;split at h
   .split at h
    .rename_i b;exact⟨a,b⟩
    .rename_i b;exact absurd h b
   .cases h
  .rename_i a;exact absurd h a
 have hs:=(FI c.1).1;have:=(c05 p).1 c.2;have:=(b0j h).1;have:=(b2s hs).2.2;omega
theorem b0i{p:Prop}[Decidable p]:((!decide p)=true)=¬p:=Dz
theorem YQ{p:Prop}[Decidable p]:((!decide p)=false)=p:=Dz
def QN(a:List Cl)(s:Stk):Bool:=s.l.any (NT a s.c)
def QZ(c:Cl)(e:Nat):Bool:= !decide (GC c.x c.y c.q e=0)
def Sf(s:Stk):Bool:=(List.range 3).any (QZ s.c)
def CX(p:Pt)(r:Mv)(L:List Stk):Int:=
 if Bo p r=0 then(if HE p.W p.H L=0 then(if L.any (QN (CC p r))then 6 else if L.any Sf then 3 else 0)else HE p.W p.H L)else Bo p r
def EG(L:List Stk):Prop:=FX L/\(∀s∈L,AD .u8 s.c.q)/\(Ao L).length<=100000
def Wi:AK
 | [x,y,z]=>match Qr [x,y],LI z with
   |some q,some s=>some (q.1/\s.1/\(∀t∈s.2,AD .u8 t.c.q)/\(Ao s.2).length<=100000,.int .i64 (CX q.2.1 q.2.2 s.2))
   |_,_=>none
 |_=>none
def d2t:Fam:=⟨Pt×Mv×List Stk,λ(p,r,L)=>[ID p,OL r,FN L],λ(p,r,L)=>prOK p r/\EG L,λ(p,r,L)=>.int .i64 (CX p r L)⟩
def d62:Pt×Mv×List Stk->Nat->Option Inv
 |(p,r,L),8=>some {β:=Nat,ok:=λi=>i<=L.length/\∀j,j<i->QN (CC p r) (L.getD j AA.d)=false,st:=λi=>⟨[⟨35,none,.int .i64 i⟩,⟨34,none,.int .i64 L.length⟩,⟨33,none,.sl 4 L.length (AA.row L) none⟩,⟨7,none,.own 2 0⟩,⟨6,none,.int .i64 0⟩,⟨2,none,.sl 4 L.length (AA.row L) none⟩],[.cells 29 [.int .i64 p.W,.int .i64 p.H,.sl 3 p.l.length (DU p.l) none],.cells 31 [.int .u8 r.t,.int .i64 r.x,.int .i64 r.y],.cells 146 [.sl 3 (CC p r).length (DE.row (CC p r)) none]]⟩,μ:=λi=>L.length-i}
 |(_,_,L),14=>some {β:=Nat,ok:=λi=>i<=L.length/\∀j,j<i->Sf (L.getD j AA.d)=false,st:=λi=>⟨[⟨46,none,.int .i64 i⟩,⟨45,none,.int .i64 L.length⟩,⟨44,none,.sl 4 L.length (AA.row L) none⟩,⟨6,none,.int .i64 0⟩],[]⟩,μ:=λi=>L.length-i,sub:=λi=>some fun|17=>some {β:=Nat,ok:=λk=>k<=3/\∀j,j<k->QZ (L.getD i AA.d).c j=false,st:=λk=>⟨[⟨50,none,.int .u8 k⟩,⟨13,none,.own 0 0⟩,⟨46,none,.int .i64 i⟩,⟨45,none,.int .i64 L.length⟩,⟨44,none,.sl 4 L.length (AA.row L) none⟩,⟨6,none,.int .i64 0⟩],[.cells 41 [.int .i64 (L.getD i AA.d).c.x,.int .i64 (L.getD i AA.d).c.y,.int .u8 (L.getD i AA.d).c.q,.sl 1 (L.getD i AA.d).l.length (AC.row (L.getD i AA.d).l) none]]⟩,μ:=λk=>3-k}|_=>none}
 |_,_=>none
theorem c28:PS 85 Wi:=by
 refine con [(71,XE),(126,b4j),(127,b8p),(129,Vn)] (by simpa using⟨c45,f01,g0i,b05⟩) d2t d62 Wi ?_ ?_ Tryz.func85 Dy Dy Dy ?_
 .intro args pre s h hp;unfold Wi at h;split at h
  .rename_i x y z;split at h
   .rename_i q t f g;cases h;obtain⟨q,p,r⟩:=q;obtain⟨u,L⟩:=t;obtain⟨a1,a2⟩:=c07 f hp.1;obtain⟨b1,b2⟩:=Py g hp.2.1;exact Dp
   .cases h
  .cases h
 .exact Bz
 .rintro⟨p,r,L⟩ ⟨A,m⟩;have hl:=m.1.1;refine X0a _ ?_;(repeat' first|constructor|intro h)<;>refine Lm ?_
  all_goals(try simp only[CI,RT.lst_row]at*)
  all_goals(try simp only[b0i,YQ]at*)
  all_goals(first
   |exact⟨⟨⟨Do _,A.1.1⟩,A.1.2⟩,A.2⟩
   |exact⟨MH L m.1,m.2⟩
   |skip)
  .have f:¬Bo p r=0:=E2;unfold CX;rw[J8 f]
  .have f:Bo p r=0:=E2;have g:¬HE p.W p.H L=0:=E2;unfold CX;rw[J7 f,J8 g]
  .have f:Bo p r=0:=E2;have g:HE p.W p.H L=0:=E2;have G:=c10 (b7m g).2.1;have h4:=im_len f;have hx:CX p r L=if L.any (QN (CC p r))then 6 else if L.any Sf then 3 else 0:=by
    unfold CX;rw[J7 f,J7 g]
   refine⟨(0:Nat),⟨Jj _,λj hj=>Dx⟩,?_,?_⟩
   .exact X0d
   .intro i n;obtain⟨I,o⟩:=n;have E:=Su m.1 i;have J:i<L.length->∀v∈(L.getD i AA.d).l,0<=v/\v<(CC p r).length:=λn v K=>by
     have:=G i n v K;omega
    refine X0a _ ?_;(repeat' first|constructor|intro h)<;>refine Lm ?_
    all_goals(try simp only[If,RT.lst_row]at*)
    all_goals(first
     |exact Ak
     |skip)
    .refine⟨⟨⟨rfl,?_⟩,rfl⟩,⟨AC.isL_row _,E⟩,J Dx⟩;first|trivial|rfl|(rw[RT.lst_row])
    .have b:QN (CC p r) (L.getD i AA.d)=true:=E2;rw[hx,J7];refine Jp.2 ⟨L.getD i AA.d,?_,b⟩;rw[J5,J6 Dx];exact Kb _
    .have b:QN (CC p r) (L.getD i AA.d)=false:=E2;refine⟨i+1,⟨Dx,λj hj=> ?_⟩,Dx,?_⟩
     .by_cases e:j<i
      .exact o j e
      .have:j=i:=Dx;subst this;exact b
     .exact X0e
    .have B:L.any (QN (CC p r))=false:=by
      rw[Jx];intro s hs;obtain⟨j,hj,rfl⟩:=K7.1 hs;have:=o j Dx;rw[J5,J6 hj]at this;simpa using this
     rw[J8 (by simp[B])]at hx;refine⟨(0:Nat),⟨Jj _,λj hj=>Dx⟩,?_,?_⟩
     .exact X0e
     .intro i n;obtain⟨I,o⟩:=n;have E:=Su m.1 i;have w:0<=(L.getD i AA.d).c.q/\(L.getD i AA.d).c.q<=255:=by
       rw[J5];cases C:L[i]? with
       |none=>exact(by decide:(0:Int)<=0/\(0:Int)<=255)
       |some s=>exact m.2.1 s (Jb C)
      refine X0a _ ?_;(repeat' first|constructor|intro h)<;>refine Lm ?_
      all_goals(try simp only[If]at*)
      all_goals(first
       |exact Ak
       |skip)
      .refine⟨(0:Nat),⟨Jj _,λj hj=>Dx⟩,?_,?_⟩
       .exact X0e
       .intro k C;obtain⟨j9,F⟩:=C;refine X0a _ ?_;(repeat' first|constructor|intro h)<;>refine Lm ?_
        all_goals(try simp only[If,b0i,YQ]at*)
        all_goals(first
         |omega
         |exact⟨w,Fh⟩
         |exact⟨w.1,w.2,Dx,Dx⟩
         |exact⟨w,Dx,Dx⟩
         |exact A4
         |skip)
        .have b:QZ (L.getD i AA.d).c k=true:=by
          have:¬GC (L.getD i AA.d).c.x (L.getD i AA.d).c.y (L.getD i AA.d).c.q (k:Int)=0:=E2;unfold QZ;rw[b0i];exact this
         rw[hx,J7];refine Jp.2 ⟨L.getD i AA.d,?_,Jp.2 ⟨k,Ka.2 Dx,b⟩⟩;rw[J5,J6 Dx];exact Kb _
        .have b:QZ (L.getD i AA.d).c k=false:=by
          have:GC (L.getD i AA.d).c.x (L.getD i AA.d).c.y (L.getD i AA.d).c.q (k:Int)=0:=E2;unfold QZ;rw[YQ];exact this
         refine⟨k+1,⟨Dx,λj hj=> ?_⟩,Dx,?_⟩
         .by_cases e:j<k
          .exact F j e
          .have:j=k:=Dx;subst this;exact b
         .exact X0e
        .have b:Sf (L.getD i AA.d)=false:=by
          unfold Sf;rw[Jx];intro j hj;have:=F j Hb;rw[this];exact Bool.false_ne_true
         refine⟨i+1,⟨Dx,λj hj=> ?_⟩,Dx,?_⟩
         .by_cases e:j<i
          .exact o j e
          .have:j=i:=Dx;subst this;exact b
         .exact X0e
      .have B:L.any Sf=false:=by
        rw[Jx];intro s hs;obtain⟨j,hj,rfl⟩:=K7.1 hs;have:=o j Dx;rw[J5,J6 hj]at this;simpa using this
       rw[hx,J8 (by simp[B])]
end Go.Proofs.YtaihldljnlgnoaaGreatDoor.V
