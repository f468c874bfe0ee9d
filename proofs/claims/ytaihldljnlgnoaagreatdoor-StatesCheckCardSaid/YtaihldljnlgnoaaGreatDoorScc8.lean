/-
  Parts of the proof: Q1 Q3 A28 C1 C2 C3 C4 C5 C6 C7 Q4 A22 C8 D1 A13 D2 D3 A14 D4 A18 A19. Conditions: none.
-/
import Derived.Test.YtaihldljnlgnoaaGreatDoorScc5
import Derived.Test.YtaihldljnlgnoaaGreatDoorScc7
import Derived.Shelf.SlSortCmp.NoneTotal
import Derived.Shelf.Lay
import Derived.Ground.SlsfProg
import Derived.Shelf.SortM.Plain
import Derived.Shelf.SortM.SortNone
import Derived.Ground.SlgmProg
set_option maxRecDepth 100000
set_option maxHeartbeats 40000000
namespace Go.Proofs
open Go Go.Lib Go.RowKit Go.Shelf Go.Sort
shelf_lay_g SlLaysF0.n6 Slsf 6 at Tryz 139 as Tryz.sortPass
shelf_lay_g SlLaysF0.n6 Slsf 6 at Tryz 141 as Tryz.sortLoop
shelf_lay_g SlLaysM.n5 Slgm 5 at Tryz 144 as Tryz.sortInts
end Go.Proofs
namespace Go.Proofs.YtaihldljnlgnoaaGreatDoor.V
open Go
section
open Go.Sort
theorem b00{α:Type}[Inhabited α]{enc:α->List Value}{k:Nat}{w:World}{b o m:Nat}{a:Array α}{os:Array Obj}{i:Nat}(hi:i<w.heap.size)(c:i≠b):(sortWorldK enc k w b o m a os).heap[i]?=w.heap[i]?:=by unfold sortWorldK putRowK;rw[heap_grow_old _ _ Er];show (w.heap.modify b _)[i]?=_;rw[Md,J3 (Ne.symm c)]
theorem b1w{α:Type}[Inhabited α]{enc:α->List Value}{k:Nat}{w:World}{b o m:Nat}{a:Array α}{os:Array Obj}{c:Array Value}{T:TypeId}{z:Nat×Nat}(h:w.heap[b]?=some (.cells c T z)):(sortWorldK enc k w b o m a os).heap[b]?=some (.cells (putCells id o (flatK enc k a) c) T z):=by have hi:b<w.heap.size:=(K9.1 h).1;unfold sortWorldK putRowK;rw[heap_grow_old _ _ Er];show (w.heap.modify b _)[b]?=_;rw[Md,Iz rfl,h];rfl
theorem b34{α:Type}[Inhabited α]{enc:α->List Value}{k:Nat}{w:World}{b o m:Nat}{a:Array α}{os:Array Obj}:w.heap.size<=(sortWorldK enc k w b o m a os).heap.size:=by unfold sortWorldK putRowK;simp
theorem d45{α:Type}[Inhabited α]{enc:α->List Value}{k:Nat}{w:World}{b o m:Nat}{a:Array α}{os:Array Obj}{X:Nat->Prop}(c:X b):Fr w.heap.size X w (sortWorldK enc k w b o m a os):=
 ⟨rfl,rfl,rfl,λ_=>Nat.le_add_right _ _,b34,λ_ d f=>b00 d (λe=>f (e▸c))⟩
theorem b7m{X:Nat->Prop}{w w':World}(h:Fr w.heap.size X w w')(b:∀i,¬X i):∃q c,w'=grow (w.drewN q) c:=by
 refine⟨w'.drawn-w.drawn,w'.heap.extract w.heap.size w'.heap.size,?_⟩;have h1:=h.drawn trivial;have d:w'.heap=w.heap++w'.heap.extract w.heap.size w'.heap.size:=by
  apply Array.ext_getElem?;intro i;rw[Array.getElem?_append];split
  .rename_i a;exact h.block i a (b i)
  .rename_i a;have:=h.size;rw[Array.getElem?_extract];split
   .congr 1;omega
   .rw[Array.getElem?_eq_none];omega
 have e:=h.os;have f:=h.tape;have g:=h.output;cases w';cases w;simp only[grow,World.drewN,World.mk.injEq]at*;subst e f g;exact⟨d,rfl,Dv,rfl,rfl⟩
theorem b2n{F c:Array Value}{o t:Nat}(h:t<F.size)(a:o+t<c.size):(putCells id o F c)[o+t]?=some F[t]!:=by simp only[putCells,Array.getElem?_mapIdx];rw[M2 a];simp only[Kb];rw[Iz ⟨Dv,Dv⟩,show o+t-o=t from Dv];rfl
theorem b0x{F c:Array Value}{o:Nat}:(putCells id o F c).size=c.size:=by simp[putCells]
theorem c3e{F c:Array Value}{o:Nat}{v:Value}(b:∀t,t<F.size->F[t]!.oneCell'=true)(d:∀v∈c,v.oneCell'=true)(h:v∈putCells id o F c):v.oneCell'=true:=by
 obtain⟨i,a,rfl⟩:=Array.mem_iff_getElem.1 h;have e:i<c.size:=by rw[b0x]at a;exact a
 simp only[putCells,Array.getElem_mapIdx];split
 .exact b _ Dv
 .exact d _ (Array.getElem_mem e)
theorem f0i{α:Type}[Inhabited α]{enc:α->List Value}{k:Nat}{d:Array α}(b:∀x,(enc x).length=k)(c:∀x,∀v∈enc x,v.oneCell'=true){t:Nat}(a:t<(flatK enc k d).size):(flatK enc k d)[t]!.oneCell'=true:=by
 rw[size_flatK]at a;rw[get_flatK _ _ _ _ a];have k0:0<k:=by
  rcases Kg k with h|h
  .subst h;simp at a
  .exact h
 have:t%k<(enc d[t/k]!).length:=by rw[b];exact Nk _ k0
 rw[Lh (enc d[t/k]!) (t%k) this];exact c _ _ (K2 this)
theorem b9f{α:Type}[Inhabited α]{enc:α->List Value}{k:Nat}{d:Array α}{i j:Nat}(hi:i<d.size)(hj:j<k):i*k+j<(flatK enc k d).size/\(flatK enc k d)[i*k+j]! =(enc d[i]!)[j]!:=by
 have lt:i*k+j<d.size*k:=by have:=Ka k (show i+1<=d.size from hi);rw[Lx,Nat.one_mul]at this;omega
 have a:(i*k+j)/k=i:=(blk_iff k i _ Dv).1 ⟨Dv,Dv⟩;have b:(i*k+j)%k=j:=by rw[Nat.mod_eq_sub_div_mul,a];omega
 exact⟨by simpa using lt,by rw[get_flatK _ _ _ _ lt,a,b]⟩
end
section
open Go.Sort Go.Proofs Go.Shelf
def BC:List Int->List Int->Int
 | [],[]=>0
 | [],_::_=> -1
 |_::_,[]=>1
 |a::r,b::q=>if a=b then BC r q else CE a b
theorem JL:∀l m:List Int,BC m l= -BC l m
 | [],[]=>rfl
 | [],_::_=>rfl
 |_::_,[]=>rfl
 |a::r,b::q=>by
  simp only[BC];by_cases h:a=b
  .rw[Iz h,Iz h.symm];exact JL r q
  .rw[J3 h,J3 (λe=>h e.symm)];unfold CE;repeat' split<;>omega
theorem QK:∀l m:List Int,BC l m=0->l=m
 | [],[],_=>rfl
 | [],_::_,h=>Fi
 |_::_,[],h=>Fi
 |a::r,b::q,h=>by
  simp only[BC]at h;by_cases e:a=b
  .rw[Iz e]at h;rw[e,QK r q h]
  .rw[J3 e]at h;unfold CE at h;split at h<;>(try split at h)<;>omega
theorem VU(l:List Int):BC l l=0:=by have:=JL l l;omega
theorem Vm:∀l m n:List Int,BC l m<0->BC m n<0->BC l n<0
 | [],[],n,h,_=>Fi
 | [],_::_,[],_,h=>Fi
 | [],_::_,_::_,_,_=>by simp[BC]
 |_::_,[],n,h,_=>Fi
 |_::_,_::_,[],_,h=>Fi
 |a::r,b::q,c::s,e,d=>by
  simp only[BC]at e d⊢;have k (x y:Int):CE x y<0->x<y:=by unfold CE;split<;>(try split)<;>omega
  have i (x y:Int) (h:x<y):CE x y<0:=by unfold CE;rw[if_pos h];omega
  by_cases g:a=b
  .subst g;rw[Iz rfl]at e;by_cases f:a=c
   .subst f;rw[Iz rfl]at d⊢;exact Vm r q s e d
   .rw[J3 f]at d⊢;exact d
  .rw[J3 g]at e;have:=k _ _ e;by_cases f:b=c
   .subst f;rw[J3 g];exact e
   .rw[J3 f]at d;have:=k _ _ d;rw[J3 Dv];exact i _ _ Dv
theorem d4y{α:Type}(key:α->List Int):SWO (ltOf λx y:α=>BC (key x) (key y))where
 irrefl x:=by simp[ltOf,VU]
 trans x y z h1 h2:=by simp only[ltOf,Jb]at*;exact Vm _ _ _ h1 h2
 ntrans x y z h1 h2:=by
  simp only[ltOf,L3]at*;intro a;have n1:=JL (key x) (key y);have n2:=JL (key y) (key z);by_cases b:BC (key x) (key y)=0
  .rw[QK _ _ b]at a;exact h2 a
  .exact h2 (Vm _ _ _ Dv a)
def VS{β:Type}(key:β->List Int)(x:β):List β->List β
 | []=>[x]
 |y::r=>if BC (key x) (key y)<=0 then x::y::r else y::VS key x r
def GZ{β:Type}(key:β->List Int)(l:List β):List β:=l.foldr (VS key) []
theorem b6t{β:Type}(key:β->List Int)(x:β):∀l,(VS key x l).Perm (x::l)
 | []=>.refl _
 |y::r=>by
  simp only[VS];split
  .exact .refl _
  .exact((b6t key x r).cons y).trans (.swap x y r)
theorem Uy{β:Type}(key:β->List Int):∀l,(GZ key l).Perm l
 | []=>.refl _
 |x::l=>(b6t key x _).trans ((Uy key l).cons x)
theorem Rf{β:Type}(key:β->List Int)(l:List β):(GZ key l).length=l.length:=(Uy key l).length_eq
theorem QJ{β:Type}(key:β->List Int)(l:List β)(x:β):x∈GZ key l↔x∈l:=(Uy key l).mem_iff
theorem b98{l m n:List Int}(h:BC l m<=0)(k:BC m n<=0):BC l n<=0:=by
 by_cases a:BC l m=0
 .rw[QK _ _ a];exact k
 .by_cases b:BC m n=0
  .rw[<-QK _ _ b];exact h
  .exact Int.le_of_lt (Vm l m n Dv Dv)
theorem b63{β:Type}(key:β->List Int)(x:β):∀l,l.Pairwise (λa b=>BC (key a) (key b)<=0)->(VS key x l).Pairwise (λa b=>BC (key a) (key b)<=0)
 | [],_=>List.pairwise_singleton _ _
 |y::r,h=>by
  have d:=Ki.1 h;simp only[VS];split
  .rename_i e;exact Ki.2 ⟨λz c=>by
    rcases Jd.1 c with rfl|c
    .exact e
    .exact b98 e (d.1 z c),h⟩
  .rename_i e;refine Ki.2 ⟨λz c=> ?_,b63 key x r d.2⟩;rcases Jd.1 ((b6t key x r).mem_iff.1 c)with rfl|c
   .have:=JL (key z) (key y);omega
   .exact d.1 z c
theorem b12{β:Type}(key:β->List Int):∀l,(GZ key l).Pairwise (λa b=>BC (key a) (key b)<=0)
 | []=>List.Pairwise.nil
 |x::l=>b63 key x _ (b12 key l)
theorem b76{β:Type}(key:β->List Int)(l:List β)(g:∀x∈l,∀y∈l,key x=key y->x=y):(l.mergeSort λx y=>decide (BC (key x) (key y)<=0))=GZ key l:=by
 have d:=List.mergeSort_perm l (λx y=>decide (BC (key x) (key y)<=0));refine List.Perm.eq_of_pairwise (le:=λa b=>BC (key a) (key b)<=0) (λa b i j e f=> ?_) ?_ (b12 key l) (d.trans (Uy key l).symm)
 .have:=JL (key a) (key b);exact g a (d.mem_iff.1 i) b ((QJ key l b).1 j) (QK _ _ Dv)
 .have:=List.pairwise_mergeSort (le:=λx y=>decide (BC (key x) (key y)<=0)) (λa b c e f=>by simp only[Jb]at*;exact b98 e f) (λa b=>by have:=JL (key a) (key b);simp only[K1,Jb];omega) l;exact this.imp λh=>E2
theorem d5k{β:Type}{key:β->List Int}{l:List β}(h:(l.map key).Nodup):∀x∈l,∀y∈l,key x=key y->x=y:=by
 have a:=K8.1 (L4.1 h);intro x hx y d e;obtain⟨i,b,rfl⟩:=Jw.1 hx;obtain⟨j,c,rfl⟩:=Jw.1 d;rcases Lz i j with h|h|h
 .exact absurd e (a i j b c h)
 .subst h;rfl
 .exact absurd e.symm (a j i c b h)
def svV:SV->Value
 |.int k n=>.int k n
 |_=>undef
section
variable{β:Type}{R:RT β}{w:World}{H:Nat->Prop}{μ:Mu}
theorem sv_D(b:∀x,∀s∈R.sv x,∃k n,s=.int k n){x:β}{i:Nat}{s:SV}{v:Value}(hs:(R.sv x)[i]?=some s)(a:((R.sv x).map svV)[i]?=some v):D w H μ s v:=by obtain⟨k,n,rfl⟩:=b x s (J6 hs);rw[Jr,hs]at a;cases a;exact .int
theorem sv_V(a:∀x,∀s∈R.sv x,∃k n,s=.int k n){x:β}{i:Nat}{s:SV}{v:Value}(hs:(R.sv x)[i]?=some s)(b:D w H μ s v):((R.sv x).map svV)[i]?=some v:=by obtain⟨k,n,rfl⟩:=a x s (J6 hs);cases b;rw[Jr,hs];rfl
end
def GU{β:Type}(R:RT β)(P:β->Prop)(x:{x:β // P x}):List Value:=(R.sv x.1).map svV
theorem g22{β:Type}(R:RT β){ρ:Ren}{fs fc:FuncId}(L:SlLaysF0.n6 Tryz.prog ρ)(mh:ρ.f 6=fs)(hU:∃fn,Tryz.prog.funcs[fs]?=some fn/\(fn.name== "runtime.NumGoroutine")=false/\fn.body.isNone=false)
 (aE:∀w,(isAgg (ρ.t 24)).run Tryz.prog w=.ok true w) (zE:∀w,(Go.sizeOf (ρ.t 24)).run Tryz.prog w=.ok R.sz w) (hL:∀x,(R.sv x).length=R.sz) (hI:∀x,∀s∈R.sv x,∃k n,s=.int k n)
 (kc:AM) (pc:PS fc kc) (eg:∀args w,(callFunc fc args).run Tryz.prog w=.ok (.enter fc args) w) (e:LD)
 (he:∀T sz n g rest pre g' r,e T sz n g rest=some (pre,g',r)->sz=R.sz/\r=false/\∃caps key,rest=[.clo fc caps]/\(pre->R.is n g/\n<=100000/\
   (∀x∈R.lst n g,∀y∈R.lst n g,∃p:Prop,kc ([.agg (R.sv x),.agg (R.sv y)]++caps)=some (p,.int .i64 (BC (key x) (key y)))/\p)/\(∀x∈R.lst n g,∀y∈R.lst n g,key x=key y->x=y)/\g'=R.row (GZ key (R.lst n g)))):ES fs e:=by
 refine⟨hU,?_⟩;intro A w v T sz n g c rest vals pre g' r hA hv c6 hB hD sf hp;obtain⟨rfl,rfl,caps,key,rfl,cw⟩:=he _ _ _ _ _ _ _ _ sf;obtain⟨mw,hn,rp,rq,rfl⟩:=cw hp;obtain⟨fv,rfl⟩:∃fv,vals=[fv]:=by
  have:=hD.1;match vals,this with
  | [fv],_=>exact⟨fv,rfl⟩
 have hf:=hD.2 0 _ fv rfl rfl;cases hf with
 |clo cvs fu nh=>
 obtain⟨a,m,rfl,fx,jc,fi,hl,be⟩:=hB;rcases Kg n with h0|h0
 .subst h0;have ft:=AnyF.slices_SortFunc_none {L with} a m (.func (.func fc) #[] cvs.toArray) w;rw[mh]at ft;refine ft.mono ?_;rintro e w' ⟨rfl,rfl⟩;refine⟨_,rfl,λh=>E8,λ_=>rfl,⟨a,m,rfl,fx,jc,fi,λi hi=>absurd hi Dv,?_⟩,Fr.refl _ _ _⟩;rcases be with h|⟨b,o,vs,c7,rfl,hh,ho,h1,hd⟩
  .exact .inl h
  .exact Cz
 .rcases be with h|⟨b,o,vs,c7,rfl,hh,ho,h1,hd⟩
  .omega
  have hb:b<w.heap.size:=(K9.1 hh).1;have bc:(R.lst n g).length=n:=RT.lst_length R n g;have dt:∀i,i<n->(R.lst n g)[i]?=some (R.of (g i)):=λi hi=>by simp[RT.lst,hi]
  haveI:Inhabited {x:β // x∈R.lst n g}:=⟨⟨R.of (g 0),J6 (dt 0 h0)⟩⟩
  let d:Array {x:β // x∈R.lst n g}:=(R.lst n g).attach.toArray
  have R9:d.size=n:=by simp only[d,List.size_toArray,List.length_attach];exact bc
  have O1:∀i,i<n->(d[i]!).1=R.of (g i):=λi hi=>by rw[Lh d i Dv];simp only[d,List.getElem_toArray,List.getElem_attach];simp[RT.lst]
  have bg:∀i j,i<n->j<R.sz->o+i*R.sz+j<vs.length:=λi j hi hj=>by have:=MG hi hj;have:n*R.sz<=m*R.sz:=Ka _ fx;omega
  have hk:∀x,(GU R (λx=>x∈R.lst n g) x).length=R.sz:=λx=>by simp[GU,hL]
  have df:∀i j,i<n->j<R.sz->vs[o+i*R.sz+j]?=some ((GU R (λx=>x∈R.lst n g) d[i]!)[j]!):=by
   intro i j hi hj;have b6:=bg i j hi hj;have bm:j<(R.sv (R.of (g i))).length:=by rw[hL];exact hj
   have hs:(R.sv (R.of (g i)))[j]?=some (R.sv (R.of (g i)))[j]:=Iy bm;have vg:=hd i j _ _ hi (by rw[mw i hi];exact hs) (Iy b6);have:=sv_V hI hs vg;rw[Iy b6];unfold GU;rw[O1 i hi,Lh _ j Ft];rw[Iy Ft]at this;exact this.symm
  have T7:∀x,∀v∈GU R (λx=>x∈R.lst n g) x,v.oneCell'=true:=λx v hv=>by obtain⟨s,hs,rfl⟩:=Jp.1 hv;obtain⟨k,q,rfl⟩:=hI _ s hs;rfl
  have hH:HoldsK (GU R (λx=>x∈R.lst n g)) R.sz w b o d:=by
   intro t ht;have zm:t<n*R.sz:=by simpa[R9]using ht
   have hz:0<R.sz:=by
    rcases Kg R.sz with hz|hz
    .rw[hz]at zm;omega
    .exact hz
   have t1:t/R.sz<n:=Nat.div_lt_of_lt_mul (by rwa[Mh]);have t2:=Nk t hz;have q:=b9f (enc:=GU R (λx=>x∈R.lst n g)) (k:=R.sz) (d:=d) (i:=t/R.sz) (j:=t%R.sz) Dv t2;have hc:=df (t/R.sz) (t%R.sz) t1 t2;rw[L2,Nat.div_add_mod']at hc;rw[Nat.div_add_mod']at q;rw[q.2];refine⟨?_,?_⟩
   .simp only[World.cell?,hh,Option.isSome_none,Ik,List.getElem?_toArray];exact hc
   .simp[World.frozen?,hh]
  have wr:CmpLays Tryz.prog fc cvs.toArray (GU R (λx=>x∈R.lst n g)) R.sz (λx y=>BC (key x.1) (key y.1)) b o d.size w:=by
   intro q os dk hdk x y;have bn:w.heap.size<=(sortWorldK (GU R (λx=>x∈R.lst n g)) R.sz w b o q dk os).heap.size:=b34;have kp:Keeps w (sortWorldK (GU R (λx=>x∈R.lst n g)) R.sz w b o q dk os) (held A (GN (.slice (some ⟨b,o,none⟩) n m))) (held A (GN (.slice (some ⟨b,o,none⟩) n m))) BQ BQ:=
    ⟨bn,λi hi b9=>b00 hi (λe=>b9 (.inr ⟨0,_,rfl,e▸KD c7⟩)),λ_ _ h=>h,λ_ _ h=>h⟩
   obtain⟨p,S0,mt⟩:=rp x.1 x.2 y.1 y.2;have jv:DL (sortWorldK (GU R (λx=>x∈R.lst n g)) R.sz w b o q dk os) (held A (GN (.slice (some ⟨b,o,none⟩) n m))) BQ [.agg (R.sv x.1),.agg (R.sv y.1)] [.agg (GU R (λx=>x∈R.lst n g) x).toArray,.agg (GU R (λx=>x∈R.lst n g) y).toArray]:=
    ⟨rfl,λi s v hs hv=>by
      match i,hs,hv with
      |0,hs,hv=>
       simp at hs hv;subst hs hv;exact .agg _ (by simp[GU]) (λj s v hs hv=>sv_D hI hs hv)
      |1,hs,hv=>
       simp at hs hv;subst hs hv;exact .agg _ (by simp[GU]) (λj s v hs hv=>sv_D hI hs hv)⟩
   have O2:DL (sortWorldK (GU R (λx=>x∈R.lst n g)) R.sz w b o q dk os) (held A (GN (.slice (some ⟨b,o,none⟩) n m))) BQ caps cvs:=⟨fu,λi s v hs hv=>(nh i s v hs hv).keep kp⟩
   have:=pc.2 (held A (GN (.slice (some ⟨b,o,none⟩) n m))) (sortWorldK (GU R (λx=>x∈R.lst n g)) R.sz w b o q dk os) _ _ p _
    (λi hi=>by
      rcases hi with hi|⟨j,z,hj,hz⟩
      .exact K0 (hA i hi) bn
      .unfold GN at hj;split at hj
       .cases hj;exact K0 (hv i hz).1 bn
       .cases hj)
    (λg t hg=>⟨(c6 g t hg).1,(c6 g t hg).2.keep kp⟩) (c66 jv O2) S0 mt
   have e:(#[Value.agg (GU R (λx=>x∈R.lst n g) x).toArray,Value.agg (GU R (λx=>x∈R.lst n g) y).toArray]++cvs.toArray:Array Value)=([Value.agg (GU R (λx=>x∈R.lst n g) x).toArray,Value.agg (GU R (λx=>x∈R.lst n g) y).toArray]++cvs).toArray:=F4;rw[e];refine this.mono ?_;rintro e w' ⟨v,rfl,P0,bk⟩;cases P0;exact⟨rfl,b7m bk (λ_ h=>h)⟩
  have ft:=AnyQ.slices_SortFunc_total L R.sz aE zE (GU R (λx=>x∈R.lst n g)) hk T7 (λx y=>BC (key x.1) (key y.1)) (d4y (λx:{x:β // x∈R.lst n g}=>key x.1)) fc cvs.toArray b o m d w eg wr hH hb Dv
   (λx y h1 h2=>Subtype.ext (rq _ x.2 _ y.2 (QK _ _ (by simp only[ltOf,L3]at h1 h2;have:=JL (key x.1) (key y.1);omega))))
  rw[mh,R9]at ft;refine ft.mono ?_;rintro e w' ⟨rfl,q,os,rfl⟩;generalize hM:(d.toList.mergeSort λx y=> !(ltOf (λx y:{x:β // x∈R.lst n g}=>BC (key x.1) (key y.1))) y x)=M;have rt:M.map (·.1)=GZ key (R.lst n g):=by
   rw[<-hM,<-b76 key _ rq];rw[List.map_mergeSort (s:=λx y=>decide (BC (key x) (key y)<=0))]
   .simp[d]
   .intro x _ y _;have:=JL (key x.1) (key y.1);simp only[ltOf,<-decide_not,decide_eq_decide];omega
  have j8:M.length=n:=by have:=Mc List.length rt;rw[Jv,Rf,bc]at this;exact this
  have O3:∀i,i<n->(M.toArray[i]!).1=(GZ key (R.lst n g)).getD i R.d:=λi hi=>by rw[<-rt,Lh M.toArray i Fw];simp[j8,hi]
  refine⟨_,rfl,λh=>E8,λ_=>rfl,⟨_,m,rfl,fx,jc,fi,λi hi=>⟨hL _,?_⟩,.inr ⟨b,o,(putCells id o (flatK (GU R (λx=>x∈R.lst n g)) R.sz M.toArray) vs.toArray).toList,c7,rfl,?_,?_,?_,?_⟩⟩,d45 (KD c7)⟩
  .rw[Ja];intro s hs;obtain⟨k,q,rfl⟩:=hI _ s hs;rfl
  .rw[b1w hh]
  .rw[L8,b0x];simpa using ho
  .intro v hv;exact Dj
  .intro i j s v hi hs hv;have hj:j<R.sz:=H9;have q:=b9f (enc:=GU R (λx=>x∈R.lst n g)) (k:=R.sz) (d:=M.toArray) (i:=i) (j:=j) Fw hj;rw[Kz,L2,b2n q.1 (by simp;have:=bg i j hi hj;omega),q.2]at hv;cases hv;have hs':(R.sv (M.toArray[i]!).1)[j]?=some s:=by rw[O3 i hi];exact hs
   refine sv_D hI hs' ?_;have bm:j<((R.sv (M.toArray[i]!).1).map svV).length:=by rw[Jv,hL];exact hj
   unfold GU;rw[Lh _ j bm];exact Iy bm
end
def FI(c:Cl):List Int:=[c.x,c.y,c.q]
theorem c02{a b:Cl}(h:FI a=FI b):a=b:=by cases a;cases b;simp[FI]at h;simp[h]
abbrev OS:=List (Stk×Bool)
def dO:Stk×Bool:=(AA.d,false)
def kO(O:OS):List (List Int):=O.map λo=>FI o.1.c
def Fl(O:OS)(q:List Int):Option Nat:=(kO O).findIdx? λk=>decide (k=q)
def Ti(O:OS)(q:List Int):Bool:=(Fl O q).isSome
def TN(O:OS)(q:List Int):Int:=((Fl O q).getD 0:Nat)
def QD(O:OS)(x:Stk):OS:=match Fl O (FI x.c)with
 |some k=>O.set k (⟨x.c,(O.getD k dO).1.l++x.l⟩,false)
 |none=>O++[(x,true)]
def oF(L:List Stk)(i:Nat):OS:=(L.take i).foldl QD []
def MS(O:OS)(j:Nat):List SV:=[.int .i64 (O.getD j dO).1.c.x,.int .i64 (O.getD j dO).1.c.y,.int .u8 (O.getD j dO).1.c.q,.sl 1 (O.getD j dO).1.l.length (AC.row (O.getD j dO).1.l) (if(O.getD j dO).2=true then some (O.getD j dO).1.l.length else none)]
def RL(s:Stk):List Int:=[s.c.y,s.c.x,s.c.q]
def Il(L:List Stk):List Stk:=GZ RL ((oF L L.length).map (·.1))
def RP(L:List Stk):Prop:=0<L.length/\L.length<=100000/\(∀s∈L,AE .u8 s.c.q/\s.l≠[]/\s.l.length<=100000)/\
 ∀i k,i<L.length->Fl (oF L i) (FI (L.getD i AA.d).c)=some k->((oF L i).getD k dO).2=true/\((oF L i).getD k dO).1.l.length+(L.getD i AA.d).l.length<=100000
theorem VX{O:OS}{q:List Int}{k:Nat}(h:Fl O q=some k):k<O.length/\FI (O.getD k dO).1.c=q:=by
 unfold Fl at h;rw[Kd]at h;obtain⟨d,a,_⟩:=h;have b:k<O.length:=by simpa[kO]using d
 refine⟨b,?_⟩;simp only[Jb]at a;rw[<-a];simp[kO,b]
theorem c7z{O:OS}{q:List Int}(h:Fl O q=none):q∉kO O:=by unfold Fl at h;rw[L5]at h;intro a;have:=h q a;simp at this
theorem f5n{O:OS}{k:Nat}{y:Stk×Bool}(h:k<O.length->FI y.1.c=FI (O.getD k dO).1.c):kO (O.set k y)=kO O:=by
 unfold kO;rw[List.map_set];apply Ms
 .simp
 .intro i h1 b;have a:i<O.length:=by simpa using b
  by_cases e:k=i
  .subst e;rw[List.getElem_set_self,Ls,h a];simp[a]
  .rw[List.getElem_set_ne e]
theorem d4s{O:OS}{y:Stk×Bool}:kO (O++[y])=kO O++[FI y.1.c]:=by simp[kO]
theorem Sw{O:OS}{x:Stk}{k:Nat}(h:Fl O (FI x.c)=some k):QD O x=O.set k (⟨x.c,(O.getD k dO).1.l++x.l⟩,false):=by unfold QD;rw[h]
theorem TF{O:OS}{x:Stk}(h:Fl O (FI x.c)=none):QD O x=O++[(x,true)]:=by unfold QD;rw[h]
theorem d6t{O:OS}{x:Stk}{k:Nat}(h:Fl O (FI x.c)=some k)(q:List Int):Fl (QD O x) q=Fl O q:=by rw[Sw h];unfold Fl;rw[f5n (λ_=>(VX h).2.symm)]
theorem c5r{O:OS}{x:Stk}(h:Fl O (FI x.c)=none)(q:List Int):Fl (QD O x) q=if q=FI x.c then some O.length else Fl O q:=by
 rw[TF h];have a:(kO O).length=O.length:=by simp[kO]
 by_cases e:q=FI x.c
 .subst e;rw[Iz rfl];unfold Fl at h⊢;rw[d4s,List.findIdx?_append,h];simp[a]
 .rw[J3 e];unfold Fl;rw[d4s,List.findIdx?_append];simp[Ne.symm e]
theorem Wo{L:List Stk}{i:Nat}(h:i<L.length):oF L (i+1)=QD (oF L i) (L.getD i AA.d):=by unfold oF;rw[M0,Iy h,List.foldl_append];simp[h]
theorem VT{L:List Stk}:∀i,i<=L.length->(oF L i).length<=i/\(kO (oF L i)).Nodup/\(∀o∈oF L i,(∀P:Cl->Prop,(∀s∈L,P s.c)->P o.1.c))/\(0<i->0<(oF L i).length)
 |0,_=>by simp[oF,kO]
 |i+1,h=>by
  obtain⟨h1,j,l,h4⟩:=VT (L:=L) i Dv;rw[Wo Dv];have m:L.getD i AA.d∈L:=by rw[Ix,Iy Dv,Kn];exact K2 _
  cases hf:Fl (oF L i) (FI (L.getD i AA.d).c)with
  |some k=>
   have q:=VX hf;rw[Sw hf];refine⟨E5,by rw[f5n (λ_=>q.2.symm)];exact j,λo f P g=> ?_,λ_=>by rw[Kj];omega⟩;rcases M3 f with f|rfl
   .exact l o f P g
   .exact g (L.getD i AA.d) m
  |none=>
   rw[TF hf];refine⟨E5,?_,λo f P g=> ?_,λ_=>Dx⟩
   .rw[d4s,N5];refine⟨j,Dx,λa r b n=> ?_⟩;simp only[Js]at n;subst n;intro e;exact c7z hf (e▸r)
   .rcases Jy.1 f with f|f
    .exact l o f P g
    .simp only[Js]at f;subst f;exact g (L.getD i AA.d) m
theorem c4a{L:List Stk}(b:RP L):∀i,i<=L.length->∀o∈oF L i,o.1.l.length<=100000
 |0,_=>by simp[oF]
 |i+1,h=>by
  intro o a;rw[Wo Dv]at a;have e:L.getD i AA.d∈L:=by rw[Ix,Iy Dv,Kn];exact K2 _
  cases hf:Fl (oF L i) (FI (L.getD i AA.d).c)with
  |some k=>
   rw[Sw hf]at a;rcases M3 a with a|rfl
   .exact c4a b i Dv o a
   .have:=(b.2.2.2 i k Dv hf).2;simpa using this
  |none=>
   rw[TF hf]at a;rcases Jy.1 a with a|a
   .exact c4a b i Dv o a
   .simp only[Js]at a;subst a;exact(b.2.2.1 _ e).2.2
theorem oF_key{L:List Stk}{i:Nat}(h:i<=L.length):(((oF L i).map (·.1)).map RL).Nodup:=by have a:=(VT i h).2.1;unfold kO at a;rw[Ma];unfold List.Nodup at a⊢;rw[L4]at a⊢;refine a.imp λb e=>b ?_;simp only[Function.comp,RL,Ir]at e;simp[FI,e]
theorem g0b{L:List Stk}:(Il L).length=(oF L L.length).length:=by simp[Il,Rf]
theorem f6i{L:List Stk}(a:RP L):∀s∈Il L,s.l.length<=100000:=by intro s hs;unfold Il at hs;rw[QJ,Jp]at hs;obtain⟨o,b,rfl⟩:=hs;exact c4a a _ (J9 _) o b
structure Pa where
 a:Int
 b:Int
 deriving DecidableEq
def BT:RT Pa:=⟨2,λp=>[.int .i64 p.a,.int .i64 p.b],λl=>match l with
 | [.int _ a,.int _ b]=>⟨a,b⟩
 |_=>⟨0,0⟩,⟨0,0⟩,λ_=>rfl⟩
structure Lo where
 s:Int
 a:Int
 b:Int
 deriving DecidableEq
def CA:RT Lo:=⟨3,λp=>[.int .u8 p.s,.int .i64 p.a,.int .i64 p.b],λl=>match l with
 | [.int _ s,.int _ a,.int _ b]=>⟨s,a,b⟩
 |_=>⟨0,0,0⟩,⟨0,0,0⟩,λ_=>rfl⟩
structure Sm where
 a:Cl
 b:Cl
 ps:List Pa
 ls:List Lo
 en:List Int
 deriving DecidableEq
def BB:Sm:=⟨⟨0,0,0⟩,⟨0,0,0⟩,[],[],[]⟩
def BN(s:Sm):List Int:=[s.a.x,s.a.y,s.a.q,s.b.x,s.b.y,s.b.q]
def DU(S:List Sm)(q:List Int):Bool:=S.any λs=>decide (BN s=q)
def CG(S:List Sm)(q:List Int):Nat:=S.findIdx λs=>decide (BN s=q)
def Jo(s:Sm):Mem:=⟨[.int .i64 s.a.x,.int .i64 s.a.y,.int .u8 s.a.q,.int .i64 s.b.x,.int .i64 s.b.y,.int .u8 s.b.q,.osl 0,.osl 1,.osl 2],[(s.ps.length,BT.row s.ps),(s.ls.length,CA.row s.ls),(s.en.length,AC.row s.en)]⟩
def KB(S:List Sm)(i:Nat):List SV:=[.int .i64 (S.getD i BB).a.x,.int .i64 (S.getD i BB).a.y,.int .u8 (S.getD i BB).a.q,.int .i64 (S.getD i BB).b.x,.int .i64 (S.getD i BB).b.y,.int .u8 (S.getD i BB).b.q]
theorem f04(S:List Sm)(s:Sm)(q:List Int):KA (DU S) (BN s) q=DU (S++[s]) q:=by unfold KA DU;rw[N2];simp only[List.any_cons,List.any_nil,Mb];rw[Bool.or_comm];congr 1;rw[L7];simp only[Jb];exact⟨λh=>h.symm,λh=>h.symm⟩
theorem d8i(S:List Sm)(s:Sm)(q:List Int)(a:DU S (BN s)=false)(h:DU (S++[s]) q=true):(if q=BN s then S.length else CG S q)=CG (S++[s]) q:=by
 unfold CG DU at*;rw[List.findIdx_append];by_cases e:q=BN s
 .subst e;have:S.findIdx (λx=>decide (BN x=BN s))=S.length:=by
   rw[List.findIdx_eq_length];intro x hx;have:=Jg.1 a x hx;simpa using this
  rw[Iz rfl,this,J3 (M7 _)];simp[List.findIdx_cons]
 .rw[J3 e];have:S.any (λx=>decide (BN x=q))=true:=by
   rw[N2]at h;simpa[Ne.symm e]using h
  have b:S.findIdx (λx=>decide (BN x=q))<S.length:=by rw[List.findIdx_lt_length];obtain⟨x,hx,c⟩:=Jj.1 this;exact⟨x,hx,c⟩
  rw[Iz b]
theorem LA{S:List Sm}{q:List Int}(h:DU S q=true):CG S q<S.length:=by unfold CG;rw[List.findIdx_lt_length];obtain⟨x,hx,a⟩:=Jj.1 h;exact⟨x,hx,a⟩
def Oj(x y:Cl):Cl:=if 0<FZ x.x x.y x.q y.x y.y y.q then y else x
def OY(x y:Cl):Cl:=if 0<FZ x.x x.y x.q y.x y.y y.q then x else y
def HM(x y:Cl):List Int:=BN ⟨Oj x y,OY x y,[],[],[]⟩
def Co(S:List Sm)(x y:Cl):List Sm:=if DU S (HM x y)=true then S else S++[⟨Oj x y,OY x y,[],[],[]⟩]
structure Bd where
 p:Pt
 pl:List Mv
 im:List Cl
 ht:List Int
def g08(b:Bd):Blk:=.cells 188 [.int .i64 b.p.W,.int .i64 b.p.H,.sl 3 b.p.l.length (DZ b.p.l) none,.sl 3 b.pl.length (AH.row b.pl) none,.sl 3 b.im.length (DE.row b.im) none,.osl 1,.omp 2,.osl 3]
def TG(b:Bd)(S:List Sm):List Blk:=[g08 b,.row 3 1 b.ht.length (AC.row b.ht) none,.pmap (.ints [.i64,.i64,.u8,.i64,.i64,.u8]) 4 (DU S) (CG S),.row 193 6 S.length (KB S) none,
 .fam 156 [(229,2),(158,3),(3,1)] S.length none (λi=>Jo (S.getD i BB))]
def TS(m:Mem):Sm:=match m with
 |⟨[.int _ a,.int _ b,.int _ c,.int _ d,.int _ e,.int _ f,_,_,_],[g,h,i]⟩=>⟨⟨a,b,c⟩,⟨d,e,f⟩,BT.lst g.1 g.2,CA.lst h.1 h.2,AC.lst i.1 i.2⟩
 |_=>BB
theorem b4p(s:Sm):TS (Jo s)=s:=by have a:=RT.lst_row BT s.ps;have b:=RT.lst_row CA s.ls;have c:=RT.lst_row AC s.en;simp only[Jo,TS,a,b,c]
def LI(n:Nat)(F:Nat->Mem):List Sm:=(List.range n).map λi=>TS (F i)
theorem XG(S:List Sm):LI S.length (λi=>Jo (S.getD i BB))=S:=by
 unfold LI;apply Ly;intro i;by_cases a:i<S.length
 .simp[a,b4p]
 .simp at a;simp[a]
theorem b3p(n:Nat)(F:Nat->Mem):(LI n F).length=n:=by simp[LI]
def asBd:List Blk->Option (Prop×Bd×List Sm)
 | [.cells k [.int .i64 W,.int .i64 H,l,pl,m,.osl k1,.omp k2,.osl k3],.row o p c d _,.pmap K k4 b BV,.row r s e t _,.fam u v a w F]=>
   match PT l,AH.as pl,DE.as m with
   |some (n,f),some (g,f2),some (h,j)=>if(k=188/\k1=1/\k2=2/\k3=3/\o=3/\p=1)/\(K=.ints [.i64,.i64,.u8,.i64,.i64,.u8]/\k4=4/\r=193/\s=6)/\u=156/\v=[(229,2),(158,3),(3,1)]/\w=none then
    some (((MN n f/\n<=100000)/\AH.is g f2/\DE.is h j/\AC.is c d)/\e=a/\(∀i,i<e->t i=KB (LI a F) i)/\(∀q,b q=DU (LI a F) q)/\(∀q,b q=true->BV q=CG (LI a F) q)/\∀i,i<a->(F i).le (Jo (TS (F i))),
    ⟨⟨W,H,EF n f⟩,AH.lst g f2,DE.lst h j,AC.lst c d⟩,LI a F)
    else none
   |_,_,_=>none
 |_=>none
theorem d1n{own:List Blk}{q:Prop}{b:Bd}{S:List Sm}(h:asBd own=some (q,b,S))(d:q):own.length=5/\SU 5 own (TG b S)/\b.p.l.length<=100000:=by
 unfold asBd at h;split at h;rotate_left
 .cases h
 rename_i T1 W H cr pl im k1 k2 k3 T2 z2 e g c1 K k4 has BV T3 z3 a kf c2 T4 Ts fn bt F;split at h;rotate_left
 .cases h
 rename_i n f n2 f2 n3 f3 h1 h2 h3;split at h;rotate_left
 .cases h
 rename_i j;obtain⟨⟨rfl,rfl,rfl,rfl,rfl,rfl⟩,⟨rfl,rfl,rfl,rfl⟩,rfl,rfl,rfl⟩:=j;simp only[Id]at h;obtain⟨rfl,rfl,rfl⟩:=h;obtain⟨⟨q1,q2,q3,k⟩,rfl,m,o,r,s⟩:=d;refine⟨rfl,⟨⟨?_,?_⟩,⟨?_,?_,?_,?_⟩,⟨?_,o,r⟩,⟨?_,?_,?_,?_⟩,⟨?_,?_,rfl,?_⟩,J5⟩,Ha⟩
 .exact Cb
 .exact Dk
 .exact Cb
 .exact(RT.lst_length AC e g).symm
 .exact J5
 .exact RZ (AC.row_lst k)
 .rw[Iz ⟨rfl,rfl,Dy⟩];trivial
 .exact Cb
 .exact(b3p a F).symm
 .exact J5
 .exact RZ m
 .rw[Iz ⟨rfl,rfl,rfl⟩];trivial
 .exact(b3p a F).symm
 .intro i c;have:(LI a F).getD i BB=TS (F i):=by simp[LI,c]
  show (F i).le (Jo ((LI a F).getD i BB));rw[this];exact s i c
theorem b72:∀l:List (Nat×(Nat->List SV)),c61 l l
 | []=>trivial
 |_::r=>⟨rfl,λ_ _=>rfl,b72 r⟩
theorem UM(m:Mem):m.le m:=⟨rfl,b72 _⟩
abbrev sN(l h:Cl):Sm:=⟨l,h,[],[],[]⟩
section
variable{S:List Sm}{l h:Cl}
theorem d2i:KA (DU S) [l.x,l.y,l.q,h.x,h.y,h.q] [l.x,l.y,l.q,h.x,h.y,h.q]=true:=by simp[KA]
theorem f4g:∀q,KA (DU S) [l.x,l.y,l.q,h.x,h.y,h.q] q=DU (S++[sN l h]) q:=f04 S (sN l h)
theorem f33(a:DU S [l.x,l.y,l.q,h.x,h.y,h.q]=false):∀q,KA (DU S) [l.x,l.y,l.q,h.x,h.y,h.q] q=true->(if q=[l.x,l.y,l.q,h.x,h.y,h.q]then S.length else CG S q)=CG (S++[sN l h]) q:=λq b=>d8i S (sN l h) q a (by rw[<-f4g];exact b)
theorem f9b(a:DU S [l.x,l.y,l.q,h.x,h.y,h.q]=false):(if [l.x,l.y,l.q,h.x,h.y,h.q]=[l.x,l.y,l.q,h.x,h.y,h.q]then S.length else CG S [l.x,l.y,l.q,h.x,h.y,h.q])=CG (S++[sN l h]) [l.x,l.y,l.q,h.x,h.y,h.q]:=f33 a _ d2i
theorem at_len:S.length+1=(S++[sN l h]).length:=Dx
theorem at_row:∀i,i<S.length+1->(if i<S.length then KB S i else(List.map (λx:Nat×List SV=>x.snd) [(0,[SV.int .i64 l.x,.int .i64 l.y,.int .u8 l.q,.int .i64 h.x,.int .i64 h.y,.int .u8 h.q])].reverse).getD (i-S.length) [])=KB (S++[sN l h]) i:=by
 intro i hi;by_cases a:i<S.length
 .rw[Iz a];simp[KB,Jc a]
 .have:i=S.length:=Dv;subst this;rw[J3 (M7 _)];simp[KB]
theorem at_mem:∀i,i<S.length+1->(if i=S.length then⟨lz 0 [SV.int .i64 l.x,.int .i64 l.y,.int .u8 l.q,.int .i64 h.x,.int .i64 h.y,.int .u8 h.q,.con (.slice none 0 0),.con (.slice none 0 0),.con (.slice none 0 0)],List.map (λ_=>(0,λ_=>[])) [(229,2),(158,3),(3,1)]⟩else Jo (S.getD i BB):Mem).le (Jo ((S++[sN l h]).getD i BB)):=by
 intro i a;by_cases b:i=S.length
 .subst b;rw[Iz rfl];have:(S++[sN l h]).getD S.length BB=sN l h:=by simp[]
  rw[this];exact⟨rfl,rfl,λ_ a=>absurd a (Jq _),rfl,λ_ a=>absurd a (Jq _),rfl,λ_ a=>absurd a (Jq _),J5⟩
 .rw[J3 b];have:(S++[sN l h]).getD i BB=S.getD i BB:=by simp[Jc (show i<S.length from Dv)]
  rw[this];exact UM _
end
def clSV(c:Cl):SV:=.agg [.int .i64 c.x,.int .i64 c.y,.int .u8 c.q]
def hBAt:HK:=λg own=>match g with
 | [.own 0 0,.agg [.int .i64 a,.int .i64 b,.int .u8 c],.agg [.int .i64 d,.int .i64 e,.int .u8 f]]=>(asBd own).map λq=>⟨q.1/\(AE .u8 c/\AE .u8 f)/\q.2.2.length<=1000000,.fp true 4 (CG (Co q.2.2 ⟨a,b,c⟩ ⟨d,e,f⟩) (HM ⟨a,b,c⟩ ⟨d,e,f⟩)) 0,TG q.2.1 (Co q.2.2 ⟨a,b,c⟩ ⟨d,e,f⟩),[3,4]⟩
 |_=>none
def FBAt:FamH:=⟨(Bd×List Sm)×Cl×Cl,λ(_,x,y)=>[.own 0 0,clSV x,clSV y],λ((b,S),_,_)=>TG b S,λ((b,S),x,y)=>(b.p.l.length<=100000)/\(AE .u8 x.q/\AE .u8 y.q)/\S.length<=1000000,λ((_,S),x,y)=>.fp true 4 (CG (Co S x y) (HM x y)) 0,λ((b,S),x,y)=>TG b (Co S x y),[3,4]⟩
theorem pBAt:HS 136 hBAt:=by
 refine HG {l:=[(100,SB)]} ⟨Hb,Dx,Dx⟩ FBAt (λ_ _=>none) hBAt ?_ ?_ ?_ Tryz.func136 Dw Dw Dw ?_
 .intro args own r h g;unfold hBAt at h;split at h
  .rename_i a b c d e f;simp only[J7]at h;obtain⟨⟨q,n,S⟩,hx,rfl⟩:=h;obtain⟨o,s,t⟩:=d1n hx g.1;exact⟨((n,S),⟨a,b,c⟩,⟨d,e,f⟩),⟨E4,by simp[clSV,SV.le2,SV.le1,BH,SV.le0],by simp[clSV,SV.le2,SV.le1,BH,SV.le0],J5⟩,o,s,⟨t,g.2⟩,rfl,rfl,rfl⟩
  .cases h
 .exact C1
 .intro i;show 5<=5;decide
 .rintro⟨⟨b,S⟩,x,y⟩ μ g;replace g:(b.p.l.length<=100000)/\(AE .u8 x.q/\AE .u8 y.q)/\S.length<=1000000:=g;have cT:decide (0<FZ x.x x.y x.q y.x y.y y.q)=true->HM x y=[y.x,y.y,y.q,x.x,x.y,x.q]/\(DU S [y.x,y.y,y.q,x.x,x.y,x.q]=false->Co S x y=S++[sN y x])/\(DU S [y.x,y.y,y.q,x.x,x.y,x.q]=true->Co S x y=S):=by
   intro k;have f6:=K7 k;have e:HM x y=[y.x,y.y,y.q,x.x,x.y,x.q]:=by simp[HM,BN,Oj,OY,f6]
   exact Dm
  have u:decide (0<FZ x.x x.y x.q y.x y.y y.q)=false->HM x y=[x.x,x.y,x.q,y.x,y.y,y.q]/\(DU S [x.x,x.y,x.q,y.x,y.y,y.q]=false->Co S x y=S++[sN x y])/\(DU S [x.x,x.y,x.q,y.x,y.y,y.q]=true->Co S x y=S):=by
   intro k;have f6:=M6 k;have e:HM x y=[x.x,x.y,x.q,y.x,y.y,y.q]:=by simp[HM,BN,Oj,OY,f6]
   exact Dm
  refine X0 _ ?_;(repeat' first|constructor|intro h)<;>refine Lm ?_
  all_goals(first
   |exact g.2.1
   |exact B8
   |exact⟨Dv,MU Dw Dv⟩
   |(obtain⟨e1,m,j⟩:=cT Dz
     first
      |(have hk:DU S [y.x,y.y,y.q,x.x,x.y,x.q]=false:=by simpa using h
        first
         |exact d2i
         |(rw[m hk]
           first
            |exact Bg))
      |(have hk:DU S [y.x,y.y,y.q,x.x,x.y,x.q]=true:=by simpa using h
        first
         |exact hk
         |exact Mc List.length (j hk).symm
         |(rw[j hk]
           first
            |exact Bp
            |exact B8
            |rfl
            |exact Bc
            |(rw[e1];exact λ_=>rfl))))
   |(obtain⟨e1,m,j⟩:=u Dz
     first
      |(have hk:DU S [x.x,x.y,x.q,y.x,y.y,y.q]=false:=by simpa using h
        first
         |exact d2i
         |(rw[m hk]
           first
            |exact Bg))
      |(have hk:DU S [x.x,x.y,x.q,y.x,y.y,y.q]=true:=by simpa using h
        first
         |exact hk
         |exact Mc List.length (j hk).symm
         |(rw[j hk]
           first
            |exact Bp
            |exact B8
            |rfl
            |exact Bc
            |(rw[e1];exact λ_=>rfl))))
   |skip)
theorem cl_eta(c:Cl):(⟨c.x,c.y,c.q⟩:Cl)=c:=rfl
def DR(b:Bd)(u e:Int):Cl:=
 ⟨keep (HO (b.pl.getD u.toNat AH.d).t (b.pl.getD u.toNat AH.d).x (b.pl.getD u.toNat AH.d).y (JM (BZ b.p.W b.p.H u) (Bl b.p.W b.p.H u) (CB b.p.W b.p.H u) e) (JO (BZ b.p.W b.p.H u) (Bl b.p.W b.p.H u) (CB b.p.W b.p.H u) e) (IK (BZ b.p.W b.p.H u) (Bl b.p.W b.p.H u) (CB b.p.W b.p.H u) e)) (LN (b.pl.getD u.toNat AH.d).t (b.pl.getD u.toNat AH.d).x (b.pl.getD u.toNat AH.d).y (JM (BZ b.p.W b.p.H u) (Bl b.p.W b.p.H u) (CB b.p.W b.p.H u) e) (JO (BZ b.p.W b.p.H u) (Bl b.p.W b.p.H u) (CB b.p.W b.p.H u) e)),
  keep (HO (b.pl.getD u.toNat AH.d).t (b.pl.getD u.toNat AH.d).x (b.pl.getD u.toNat AH.d).y (JM (BZ b.p.W b.p.H u) (Bl b.p.W b.p.H u) (CB b.p.W b.p.H u) e) (JO (BZ b.p.W b.p.H u) (Bl b.p.W b.p.H u) (CB b.p.W b.p.H u) e) (IK (BZ b.p.W b.p.H u) (Bl b.p.W b.p.H u) (CB b.p.W b.p.H u) e)) (MB (b.pl.getD u.toNat AH.d).t (b.pl.getD u.toNat AH.d).x (b.pl.getD u.toNat AH.d).y (JM (BZ b.p.W b.p.H u) (Bl b.p.W b.p.H u) (CB b.p.W b.p.H u) e) (JO (BZ b.p.W b.p.H u) (Bl b.p.W b.p.H u) (CB b.p.W b.p.H u) e)),
  keep (HO (b.pl.getD u.toNat AH.d).t (b.pl.getD u.toNat AH.d).x (b.pl.getD u.toNat AH.d).y (JM (BZ b.p.W b.p.H u) (Bl b.p.W b.p.H u) (CB b.p.W b.p.H u) e) (JO (BZ b.p.W b.p.H u) (Bl b.p.W b.p.H u) (CB b.p.W b.p.H u) e) (IK (BZ b.p.W b.p.H u) (Bl b.p.W b.p.H u) (CB b.p.W b.p.H u) e)) (KV (b.pl.getD u.toNat AH.d).t (IK (BZ b.p.W b.p.H u) (Bl b.p.W b.p.H u) (CB b.p.W b.p.H u) e))⟩
def CT(b:Bd)(u:Int):Cl:=b.im.getD u.toNat DE.d
theorem oth_eq(b:Bd)(u e:Int):(⟨keep (HO (b.pl.getD u.toNat AH.d).t (b.pl.getD u.toNat AH.d).x (b.pl.getD u.toNat AH.d).y (JM (BZ b.p.W b.p.H u) (Bl b.p.W b.p.H u) (CB b.p.W b.p.H u) e) (JO (BZ b.p.W b.p.H u) (Bl b.p.W b.p.H u) (CB b.p.W b.p.H u) e) (IK (BZ b.p.W b.p.H u) (Bl b.p.W b.p.H u) (CB b.p.W b.p.H u) e)) (LN (b.pl.getD u.toNat AH.d).t (b.pl.getD u.toNat AH.d).x (b.pl.getD u.toNat AH.d).y (JM (BZ b.p.W b.p.H u) (Bl b.p.W b.p.H u) (CB b.p.W b.p.H u) e) (JO (BZ b.p.W b.p.H u) (Bl b.p.W b.p.H u) (CB b.p.W b.p.H u) e)),keep (HO (b.pl.getD u.toNat AH.d).t (b.pl.getD u.toNat AH.d).x (b.pl.getD u.toNat AH.d).y (JM (BZ b.p.W b.p.H u) (Bl b.p.W b.p.H u) (CB b.p.W b.p.H u) e) (JO (BZ b.p.W b.p.H u) (Bl b.p.W b.p.H u) (CB b.p.W b.p.H u) e) (IK (BZ b.p.W b.p.H u) (Bl b.p.W b.p.H u) (CB b.p.W b.p.H u) e)) (MB (b.pl.getD u.toNat AH.d).t (b.pl.getD u.toNat AH.d).x (b.pl.getD u.toNat AH.d).y (JM (BZ b.p.W b.p.H u) (Bl b.p.W b.p.H u) (CB b.p.W b.p.H u) e) (JO (BZ b.p.W b.p.H u) (Bl b.p.W b.p.H u) (CB b.p.W b.p.H u) e)),keep (HO (b.pl.getD u.toNat AH.d).t (b.pl.getD u.toNat AH.d).x (b.pl.getD u.toNat AH.d).y (JM (BZ b.p.W b.p.H u) (Bl b.p.W b.p.H u) (CB b.p.W b.p.H u) e) (JO (BZ b.p.W b.p.H u) (Bl b.p.W b.p.H u) (CB b.p.W b.p.H u) e) (IK (BZ b.p.W b.p.H u) (Bl b.p.W b.p.H u) (CB b.p.W b.p.H u) e)) (KV (b.pl.getD u.toNat AH.d).t (IK (BZ b.p.W b.p.H u) (Bl b.p.W b.p.H u) (CB b.p.W b.p.H u) e))⟩:Cl)=DR b u e:=rfl
theorem im_eq(b:Bd)(u:Int):b.im.getD u.toNat DE.d=CT b u:=rfl
def GP(b:Bd)(u e:Int)(s:Sm):Sm:=
 if AX b.p.W b.p.H u e=0 then
  if AG b.p.W b.p.H u e<u then s
  else if AW b.p u e=0 then {s with ps:=s.ps++[if CT b u=s.b then⟨AG b.p.W b.p.H u e,u⟩else⟨u,AG b.p.W b.p.H u e⟩]}
  else {s with ls:=s.ls++[⟨if CT b u=s.b then 1 else 0,if b.ht.getD u.toNat 0<b.ht.getD (AG b.p.W b.p.H u e).toNat 0 then u else AG b.p.W b.p.H u e,if b.ht.getD u.toNat 0<b.ht.getD (AG b.p.W b.p.H u e).toNat 0 then AG b.p.W b.p.H u e else u⟩]}
 else {s with en:=s.en++[u]}
def GO(b:Bd)(u e:Int)(S:List Sm):List Sm:=
 let T:=Co S (CT b u) (DR b u e)
 let i:=CG T (HM (CT b u) (DR b u e))
 T.set i (GP b u e (T.getD i BB))
theorem f8u(b:Bd)(u e:Int)(s:Sm):BN (GP b u e s)=BN s:=by
 unfold GP;split
 .split
  .rfl
  .split<;>rfl
 .rfl
theorem b1d{α:Type}{T:List α}{i j:Nat}{x d:α}(h:i<T.length):(T.set i x).getD j d=if j=i then x else T.getD j d:=by
 by_cases e:j=i
 .subst e;simp[h]
 .simp[Jh (Ne.symm e),e]
theorem b2a(T:List Sm)(i:Nat)(s:Sm)(h:BN s=BN (T.getD i BB)):(T.set i s).map BN=T.map BN:=by
 apply Ly;intro j;simp only[Jr];by_cases e:j=i
 .subst e;by_cases a:j<T.length
  .simp[a,h]
  .simp[a]
 .rw[Jh (Ne.symm e)]
theorem Tk(S:List Sm)(q:List Int):DU S q=(S.map BN).any λk=>decide (k=q):=by simp[DU,List.any_map,Function.comp_def]
theorem WM(S:List Sm)(q:List Int):CG S q=(S.map BN).findIdx λk=>decide (k=q):=by simp[CG,List.findIdx_map,Function.comp_def]
theorem b48(b:Bd)(u e:Int)(S:List Sm):(GO b u e S).map BN=(Co S (CT b u) (DR b u e)).map BN:=b2a _ _ _ (f8u b u e _)
theorem f08(b:Bd)(u e:Int)(S:List Sm):∀q,DU (Co S (CT b u) (DR b u e)) q=DU (GO b u e S) q:=λq=>by rw[Tk,Tk,b48]
theorem d97(b:Bd)(u e:Int)(S:List Sm):∀q,DU (Co S (CT b u) (DR b u e)) q=true->CG (Co S (CT b u) (DR b u e)) q=CG (GO b u e S) q:=λq _=>by rw[WM,WM,b48]
theorem Va(b:Bd)(u e:Int)(S:List Sm):(GO b u e S).length=(Co S (CT b u) (DR b u e)).length:=by simp[GO]
theorem c1z{S T:List Sm}(h:S.map BN=T.map BN)(i:Nat)(hi:i<S.length):KB S i=KB T i:=by
 have a:S.length=T.length:=by simpa using Mc List.length h
 have e:BN (S.getD i BB)=BN (T.getD i BB):=by have:=Mc (λl=>l[i]?) h;simp only[Jr,Iy hi,Iy (a▸hi),Kb,Ju]at this;simpa[Ix,hi,a▸hi]using this
 simp only[BN,Ir]at e;obtain⟨b,c,d,f,g,j⟩:=e;simp only[KB,b,c,d,f,g,j]
theorem d9c(b:Bd)(u e:Int)(S:List Sm):∀i,i<(Co S (CT b u) (DR b u e)).length->KB (Co S (CT b u) (DR b u e)) i=KB (GO b u e S) i:=λi a=>c1z (b48 b u e S).symm i a
theorem QE(S:List Sm)(x y:Cl):DU (Co S x y) (HM x y)=true:=by
 unfold Co;split
 .assumption
 .simp[DU,HM,BN]
theorem Xo(b:Bd)(u e:Int)(S:List Sm):(GO b u e S).getD (CG (Co S (CT b u) (DR b u e)) (HM (CT b u) (DR b u e))) BB=GP b u e ((Co S (CT b u) (DR b u e)).getD (CG (Co S (CT b u) (DR b u e)) (HM (CT b u) (DR b u e))) BB):=by unfold GO;rw[b1d (LA (QE S _ _)),Iz rfl]
theorem c4q{b:Bd}{u e:Int}{S:List Sm}{j:Nat}(h:¬j=CG (Co S (CT b u) (DR b u e)) (HM (CT b u) (DR b u e))):(GO b u e S).getD j BB=(Co S (CT b u) (DR b u e)).getD j BB:=by unfold GO;rw[b1d (LA (QE S _ _)),J3 h]
theorem d37{b:Bd}{u e:Int}{s:Sm}(h:(!decide (AX b.p.W b.p.H u e=0))=true):GP b u e s={s with en:=s.en++[u]}:=by have h:¬AX b.p.W b.p.H u e=0:=E2;unfold GP;rw[if_neg h]
theorem f2g{b:Bd}{u e:Int}{s:Sm}(h:(!decide (AX b.p.W b.p.H u e=0))=false)(a:decide (AG b.p.W b.p.H u e<u)=true):GP b u e s=s:=by have h:AX b.p.W b.p.H u e=0:=E2;unfold GP;rw[if_pos h,if_pos (of_decide_eq_true a)]
theorem f2y{b:Bd}{u e:Int}{s:Sm}(h:(!decide (AX b.p.W b.p.H u e=0))=false)(a:decide (AG b.p.W b.p.H u e<u)=false)(c:AW b.p u e=0):GP b u e s={s with ps:=s.ps++[if CT b u=s.b then⟨AG b.p.W b.p.H u e,u⟩else⟨u,AG b.p.W b.p.H u e⟩]}:=by have h:AX b.p.W b.p.H u e=0:=E2;unfold GP;rw[if_pos h,if_neg (of_decide_eq_false a),if_pos c]
theorem c6n{b:Bd}{u e:Int}{s:Sm}(h:(!decide (AX b.p.W b.p.H u e=0))=false)(a:decide (AG b.p.W b.p.H u e<u)=false)(c:¬AW b.p u e=0):GP b u e s={s with ls:=s.ls++[⟨if CT b u=s.b then 1 else 0,if b.ht.getD u.toNat 0<b.ht.getD (AG b.p.W b.p.H u e).toNat 0 then u else AG b.p.W b.p.H u e,if b.ht.getD u.toNat 0<b.ht.getD (AG b.p.W b.p.H u e).toNat 0 then AG b.p.W b.p.H u e else u⟩]}:=by have h:AX b.p.W b.p.H u e=0:=E2;unfold GP;rw[if_pos h,if_neg (of_decide_eq_false a),if_neg c]
theorem UP{α:Type}{R:RT α}{l:List α}{x:α}{c:List SV}(a:c=R.sv x):∀i,i<l.length+1->(if i<l.length then R.row l i else(List.map (λx:Nat×List SV=>x.snd) [(0,c)].reverse).getD (i-l.length) [])=R.row (l++[x]) i:=by
 intro i hi;by_cases h:i<l.length
 .rw[Iz h,b0a R h]
 .have:i=l.length:=Dv;subst this;rw[J3 h,Ks,b09,a];rfl
theorem mem_en{s:Sm}{x:Int}{c:List SV}{m:Mem}(h:m=⟨(Jo s).cs,[(s.ps.length,BT.row s.ps),(s.ls.length,CA.row s.ls),(s.en.length+1,λi=>if i<s.en.length then AC.row s.en i else(List.map (λx:Nat×List SV=>x.snd) [(0,c)].reverse).getD (i-s.en.length) [])]⟩)(a:c=AC.sv x):m.le (Jo {s with en:=s.en++[x]}):=by subst h;exact⟨rfl,rfl,λ_ _=>rfl,rfl,λ_ _=>rfl,Dx,UP a,J5⟩
theorem f34{s:Sm}{x:Pa}{c:List SV}{m:Mem}(h:m=⟨(Jo s).cs,[(s.ps.length+1,λi=>if i<s.ps.length then BT.row s.ps i else(List.map (λx:Nat×List SV=>x.snd) [(0,c)].reverse).getD (i-s.ps.length) []),(s.ls.length,CA.row s.ls),(s.en.length,AC.row s.en)]⟩)(a:c=BT.sv x):m.le (Jo {s with ps:=s.ps++[x]}):=by subst h;exact⟨rfl,Dx,UP a,rfl,λ_ _=>rfl,rfl,λ_ _=>rfl,J5⟩
theorem f3z{s:Sm}{x:Lo}{c:List SV}{m:Mem}(h:m=⟨(Jo s).cs,[(s.ps.length,BT.row s.ps),(s.ls.length+1,λi=>if i<s.ls.length then CA.row s.ls i else(List.map (λx:Nat×List SV=>x.snd) [(0,c)].reverse).getD (i-s.ls.length) []),(s.en.length,AC.row s.en)]⟩)(a:c=CA.sv x):m.le (Jo {s with ls:=s.ls++[x]}):=by subst h;exact⟨rfl,rfl,λ_ _=>rfl,Dx,UP a,rfl,λ_ _=>rfl,J5⟩
theorem cl_of{a b:Cl}(h:(decide (a.x=b.x)&&(decide (a.y=b.y)&&decide (a.q=b.q)))=true):a=b:=by obtain⟨x,y,q⟩:=a;obtain⟨x',y',q'⟩:=b;simp at h;obtain⟨rfl,rfl,rfl⟩:=h;rfl
theorem f52{a b:Cl}(h:(decide (a.x=b.x)&&(decide (a.y=b.y)&&decide (a.q=b.q)))=false):¬a=b:=by rintro rfl;simp at h
theorem d7q{b:Bd}{u e:Int}{s:Sm}(h:(!decide (AX b.p.W b.p.H u e=0))=false)(c:decide (AG b.p.W b.p.H u e<u)=false)(f:decide (AW b.p u e=0)=false)(a:decide (b.ht.getD u.toNat AC.d<b.ht.getD (AG b.p.W b.p.H u e).toNat AC.d)=true):GP b u e s={s with ls:=s.ls++[⟨if CT b u=s.b then 1 else 0,u,AG b.p.W b.p.H u e⟩]}:=by have a:b.ht.getD u.toNat 0<b.ht.getD (AG b.p.W b.p.H u e).toNat 0:=K7 a;rw[c6n h c (M6 f),Iz a,Iz a]
theorem d2z{b:Bd}{u e:Int}{s:Sm}(h:(!decide (AX b.p.W b.p.H u e=0))=false)(c:decide (AG b.p.W b.p.H u e<u)=false)(f:decide (AW b.p u e=0)=false)(a:decide (b.ht.getD u.toNat AC.d<b.ht.getD (AG b.p.W b.p.H u e).toNat AC.d)=false):GP b u e s={s with ls:=s.ls++[⟨if CT b u=s.b then 1 else 0,AG b.p.W b.p.H u e,u⟩]}:=by have a:¬b.ht.getD u.toNat 0<b.ht.getD (AG b.p.W b.p.H u e).toNat 0:=M6 a;rw[c6n h c (M6 f),J3 a,J3 a]
theorem mvQ_le(t Q:Int):0<=KV t Q/\KV t Q<=4:=d2d t Q 4
theorem oth_q(b:Bd)(u e:Int):AE .u8 (DR b u e).q:=by have:=mvQ_le (b.pl.getD u.toNat AH.d).t (IK (BZ b.p.W b.p.H u) (Bl b.p.W b.p.H u) (CB b.p.W b.p.H u) e);unfold DR keep;simp only[AE];split<;>omega
theorem c03{α:Type}{P:α->Prop}{l:List α}{d:α}(h:∀x∈l,P x)(a:P d)(i:Nat):P (l.getD i d):=by
 rw[Ix];cases e:l[i]? with
 |none=>exact a
 |some x=>exact h x (J6 e)
theorem f0u{S:List Sm}{x y:Cl}(h:∀s∈S,s.ps.length<=1000000/\s.ls.length<=1000000/\s.en.length<=1000000)(i:Nat):((Co S x y).getD i BB).ps.length<=1000000/\((Co S x y).getD i BB).ls.length<=1000000/\((Co S x y).getD i BB).en.length<=1000000:=by
 refine c03 (P:=λs:Sm=>s.ps.length<=1000000/\s.ls.length<=1000000/\s.en.length<=1000000) (λs hs=> ?_) (by simp[BB]) i;unfold Co at hs;split at hs
 .exact h s hs
 .rcases Jy.1 hs with hs|hs
  .exact h s hs
  .rw[Js.1 hs];simp
theorem f1c{α:Type}{R:RT α}{l:List α}{x:α}{z:Nat->List SV}(a:z 0=R.sv x):∀i,i<l.length+1->(if i<l.length then R.row l i else z (i-l.length))=R.row (l++[x]) i:=by
 intro i hi;by_cases h:i<l.length
 .rw[Iz h,b0a R h]
 .have:i=l.length:=Dv;subst this;rw[J3 h,Ks,a,b09]
def bdIn(b:Bd)(S:List Sm)(u e:Int):Prop:=
 (b.p.l.length<=100000/\∀c∈b.p.l,AE .u8 c.e)/\(0<=e/\e<=255)/\(0<=u/\u<(b.pl.length:Int)/\u<(b.im.length:Int)/\u<(b.ht.length:Int))/\(AX b.p.W b.p.H u e=0->0<=AG b.p.W b.p.H u e/\AG b.p.W b.p.H u e<(b.ht.length:Int))/\
 (∀m∈b.pl,0<=m.t/\m.t<=255)/\(∀c∈b.im,AE .u8 c.q)/\S.length<=1000000/\∀s∈S,s.ps.length<=1000000/\s.ls.length<=1000000/\s.en.length<=1000000
def c6e:HK:=λa own=>match a with
 | [.own 0 0,.int .i64 u,.int .u8 e]=>(asBd own).map λq=>⟨q.1/\bdIn q.2.1 q.2.2 u e,.tup [],TG q.2.1 (GO q.2.1 u e q.2.2),[3,4]⟩
 |_=>none
def FBMeet:FamH:=⟨(Bd×List Sm)×Int×Int,λ(_,u,e)=>[.own 0 0,.int .i64 u,.int .u8 e],λ((b,S),_,_)=>TG b S,λ((b,S),u,e)=>bdIn b S u e,λ_=>.tup [],λ((b,S),u,e)=>TG b (GO b u e S),[3,4]⟩
theorem pBMeet:HS 105 c6e:=by
 refine HG {l:=[(118,Vn),(129,Vx),(119,VR),(110,UG),(137,c6m)],h:=[(136,hBAt)],c2:=true,gr:=λid=>bif Nat.beq id 3 then [.focus 12,.keep [0,1,2,6,8,10,12,13,14,15,17,68,81,103,117,136,151]]else [.keep [0,1,2,6,8,10,12,13,14,15,17,68,81,103,117,136,151]],G:={gx:=λ_=>[.unfocus 4]}} ⟨by simpa using⟨b2b,b05,b5d,b1j,pPKind⟩,Dx,by simpa using pBAt⟩ FBMeet (λ_ _=>none) c6e ?_ ?_ ?_ Tryz.func105 Dw Dw Dw ?_
 .intro args own r h a;unfold c6e at h;split at h
  .rename_i u e;simp only[J7]at h;obtain⟨⟨q,n,S⟩,hx,rfl⟩:=h;obtain⟨o,s,h3⟩:=d1n hx a.1;exact⟨((n,S),u,e),⟨E4,E4,E4,J5⟩,o,s,a.2,rfl,rfl,rfl⟩
  .cases h
 .exact C1
 .intro i;show 5<=5;decide
 .rintro⟨⟨b,S⟩,u,e⟩ μ a;replace a:bdIn b S u e:=a;have g:=TY b.p.W b.p.H u;have v:=d2r (X:=BZ b.p.W b.p.H u) (Y:=Bl b.p.W b.p.H u) g.1 a.2.1.1;have w:=oth_q b u e;have z:AE .u8 (CT b u).q:=c03 (P:=λc:Cl=>AE .u8 c.q) a.2.2.2.2.2.1 (by show (0:Int)<=0/\(0:Int)<=255;omega) u.toNat
  have k:=c03 (P:=λm:Mv=>0<=m.t/\m.t<=255) (d:=AH.d) a.2.2.2.2.1 Dy u.toNat
  have A:=LA (QE S (CT b u) (DR b u e));have q8:=f0u (x:=CT b u) (y:=DR b u e) a.2.2.2.2.2.2.2 (CG (Co S (CT b u) (DR b u e)) (HM (CT b u) (DR b u e)));have B:S.length<=1000000:=a.2.2.2.2.2.2.1;refine X0 _ ?_;(repeat' first|constructor|intro h)<;>refine Lm ?_
  all_goals(try simp only[CU,RT.lst_row,XG,oth_eq,cl_eta,im_eq]at*)
  all_goals(first
   |exact λ_ _=>J5
   |exact B8
   |exact f08 _ _ _ _
   |exact d97 _ _ _ _
   |exact d9c _ _ _ _
   |exact(Va _ _ _ _).symm
   |exact a.2.1.1
   |exact⟨a.2.2.1.1,a.2.2.1.2.1⟩
   |exact⟨a.2.2.1.1,a.2.2.1.2.2.1⟩
   |exact⟨a.2.2.1.1,a.2.2.1.2.2.2⟩
   |exact⟨g.1,a.2.1.1⟩
   |exact⟨k.1,k.2,v.1⟩
   |exact⟨J5,A⟩
   |exact⟨⟨FF _,a.1.1⟩,a.1.2,a.2.1⟩
   |exact a.2.2.2.1 Hz
   |exact⟨Dv,MU Dw Dv⟩
   |(refine⟨⟨⟨⟨FF _,a.1.1⟩,RT.is_row AH _,RT.is_row DE _,RT.is_row AC _⟩,J5,λ_ _=>J5,λ_=>J5,λ_ _=>J5,λi hi=> ?_⟩,⟨z,w⟩,B⟩
     rw[b4p];exact UM _)
   |(show u.toNat<b.ht.length;have:=a.2.2.1;omega)
   |(show (AG b.p.W b.p.H u e).toNat<b.ht.length;have:=a.2.2.2.1 Hz;omega)
   |skip)
  all_goals(intro j hj;by_cases f:j=CG (Co S (CT b u) (DR b u e)) (HM (CT b u) (DR b u e)))
  all_goals(first
   |(rw[J3 f,c4q f];exact UM _)
   |(subst f;rw[Iz rfl,Xo])
   |skip)
  all_goals(first
   |(rw[d37 Dz]
     refine And.intro rfl (And.intro rfl (And.intro (λ_ _=>rfl) (And.intro rfl (And.intro (λ_ _=>rfl) (And.intro (by simp[]) (And.intro (f1c (R:=AC) rfl) trivial))))))
     done)
   |(rw[f2g Dz Dz];exact And.intro rfl (And.intro rfl (And.intro (λ_ _=>rfl) (And.intro rfl (And.intro (λ_ _=>rfl) (And.intro rfl (And.intro (λ_ _=>rfl) trivial)))))))
   |skip)
  .rw[d37 Dz];exact mem_en rfl rfl
  all_goals(try simp only[decide_true,Mm,show decide ((1:Int)=0)=false from rfl,Bool.and_false,Bool.false_eq_true]at*)
  all_goals(try contradiction)
  all_goals(first
   |(exfalso;exact Bool.noConfusion ((show decide (AW b.p u e=0)=true from Dz).symm.trans Dz))
   |(rw[f2y Dz Dz (K7 Dz)]
     first
      |(rw[Iz (cl_of Dz)];exact f34 rfl rfl)
      |(rw[J3 (f52 Dz)];exact f34 rfl rfl))
   |(first|rw[d7q Dz Dz Dz Dz]|rw[d2z Dz Dz Dz Dz]
     first
      |(rw[Iz (cl_of Dz)];exact f3z rfl rfl)
      |(rw[J3 (f52 Dz)];exact f3z rfl rfl))
   |skip)
def Vz:SV->Option (Prop×List Int)
 |.rel 1 1 f 0 0=>match f 0 with
  | [.rel 8 1 g 0 0]=>match g 0 with
    | [_,_,_,_,_,.sl 1 n h _,_,_]=>some ((∀j,g j=g 0)/\h=AC.row (AC.lst n h),AC.lst n h)
    |_=>none
  |_=>none
 |_=>none
abbrev C8:=SV×SV×SV×SV×SV×SV×SV×Option Nat
def capS:List Int->C8->SV
 |l,(a,b,c,d,e,f,g,h)=>.rel 1 1 (λ_=>[.rel 8 1 (λ_=>[a,b,c,d,e,.sl 1 l.length (AC.row l) h,f,g]) 0 0]) 0 0
theorem d3k{s:SV}{q:Prop}{l:List Int}(h:Vz s=some (q,l))(k:q):∃z,s.le2 (capS l z):=by
 unfold Vz at h;split at h
 .split at h
  .split at h
   .rename_i f _ g m _ a b c d e n o i x y r;cases h;obtain⟨t,u⟩:=k;refine⟨(a,b,c,d,e,x,y,i),?_⟩;simp only[capS,SV.le2,SV.le1,SV.le0,Ni,RT.lst_length];intro j hj;rw[show j=0 from Dv,m];have v:g=λ_=>[a,b,c,d,e,.sl 1 n o i,x,y]:=Mw λj=>by rw[t j,r]
    rw[v,<-u]
   .cases h
  .cases h
 .cases h
def Wn:AM
 | [.agg [.int .i64 a,.int .i64 _],.agg [.int .i64 c,.int .i64 _],s]=>(Vz s).map λq=>(q.1/\(0<=a/\a<q.2.length)/\0<=c/\c<q.2.length,.int .i64 (CE (q.2.getD a.toNat 0) (q.2.getD c.toNat 0)))
 |_=>none
def FSrt1:Fam:=⟨(Int×Int×Int×Int)×List Int×C8,λ((a,b,c,d),l,z)=>[.agg [.int .i64 a,.int .i64 b],.agg [.int .i64 c,.int .i64 d],capS l z],λ((a,_,c,_),l,_)=>(0<=a/\a<l.length)/\0<=c/\c<l.length,λ((a,_,c,_),l,_)=>.int .i64 (CE (l.getD a.toNat 0) (l.getD c.toNat 0))⟩
theorem pSrt1:PS 140 Wn:=by
 refine con [(115,Tp)] (by simpa using pCmp) FSrt1 (λ_ _=>none) Wn ?_ ?_ Tryz.func140 Dw Dw Dw ?_
 .intro args pre s h e;unfold Wn at h;split at h
  .rename_i a b c d x;simp only[J7]at h;obtain⟨⟨q,l⟩,hx,f⟩:=h;cases f;obtain⟨z,g⟩:=d3k hx e.1;exact⟨((a,b,c,d),l,z),⟨Eb,Eb,g,J5⟩,e.2,rfl⟩
  .cases h
 .exact C1
 .rintro⟨⟨a,b,c,d⟩,l,x1,x2,x3,x4,x5,x6,x7,cp⟩ e;replace e:(0<=a/\a<l.length)/\0<=c/\c<l.length:=e;refine X0 _ ?_;(repeat' first|constructor|intro h)<;>refine Lm ?_
  all_goals(first|exact e.1|exact e.2|rfl|skip)
section
open Go.Sort Go.Proofs Go.Shelf
def Oz(l:List Int)(x:Pa):List Int:=[l.getD x.a.toNat 0]
def b9q:LD:=λ_ d n g b=>match b with
 | [.clo f [c]]=>if f=140/\d=2 then(Vz c).map λq=>(q.1/\BT.is n g/\n<=100000/\(∀x∈BT.lst n g,0<=x.a/\x.a<q.2.length)/\(∀x∈BT.lst n g,∀y∈BT.lst n g,Oz q.2 x=Oz q.2 y->x=y),BT.row (GZ (Oz q.2) (BT.lst n g)),false)else none
 |_=>none
theorem f7u:ES 139 b9q:=by
 refine g22 BT Tryz.sortPass rfl ⟨_,Tryz.func139,Dw,Dw⟩ (λw=>Tryz.isAgg229 w) (λw=>Tryz.sizeOf229 w) (λ_=>rfl) (λx s hs=> ?_) Wn pSrt1 (enters_of Tryz.func140 Dw rfl) b9q ?_
 .simp[BT]at hs;rcases hs with rfl|rfl
  .exact Ca
  .exact Ca
 .intro T sz n g rest pre g' r h;unfold b9q at h;split at h;rotate_left
  .cases h
  rename_i f c;split at h;rotate_left
  .cases h
  rename_i i;obtain⟨rfl,rfl⟩:=i;simp only[J7]at h;obtain⟨⟨q,l⟩,hx,j⟩:=h;cases j;refine⟨rfl,rfl,[c],Oz l,rfl,λd=>⟨d.2.1,d.2.2.1,λx k y m=> ?_,d.2.2.2.2,rfl⟩⟩;refine⟨q/\(0<=x.a/\x.a<l.length)/\0<=y.a/\y.a<l.length,?_,d.1,d.2.2.2.1 x k,d.2.2.2.1 y m⟩;show Wn [.agg [.int .i64 x.a,.int .i64 x.b],.agg [.int .i64 y.a,.int .i64 y.b],c]=_;simp only[Wn,hx,Kb,Id,Ni,SV.int.injEq];simp only[Oz,BC];split
  .rename_i e;rw[e];simp[CE]
  .rfl
end
def LU:List Int->Int
 | []=>0
 |a::r=>if a=0 then LU r else a
theorem d5j:∀{l:List Int} {i:Nat},(∀j,j<i->l.getD j 0=0)->i<l.length->l.getD i 0≠0->LU l=l.getD i 0
 | [],_,_,h,_=>E6
 |a::r,0,_,_,hv=>by simp only[LU];rw[J3 Fz];rfl
 |a::r,i+1,h,hi,hv=>by
  have b:a=0:=by simpa using h 0 Dv
  simp only[LU];rw[Iz b];have:=d5j (l:=r) (i:=i) (λj hj=>by simpa using h (j+1) Dv) Er Fz;simpa using this
theorem c71:∀{l:List Int},(∀j,j<l.length->l.getD j 0=0)->LU l=0
 | [],_=>rfl
 |a::r,h=>by
  have b:a=0:=by simpa using h 0 Dx
  simp only[LU];rw[Iz b];exact c71 (λj hj=>by simpa using h (j+1) Em)
def Yc:AM
 | [x]=>match AC.as x with
   |some (n,f)=>some (AC.is n f/\n<=100000,.int .i64 (LU (AC.lst n f)))
   |none=>none
 |_=>none
def FOrL:Fam:=⟨List Int,λl=>[.sl 1 l.length (AC.row l) none],λl=>l.length<=100000,λl=>.int .i64 (LU l)⟩
def IOrL(l:List Int):Nat->Option Inv
 |3=>some {β:=Nat,ok:=λi=>i<=l.length/\∀j,j<i->l.getD j 0=0,st:=λi=>⟨[⟨8,none,.int .i64 i⟩,⟨7,none,.int .i64 l.length⟩,⟨6,none,.sl 1 l.length (AC.row l) none⟩,⟨3,none,.int .i64 0⟩],[]⟩,μ:=λi=>l.length-i}
 |_=>none
theorem pOrL:PS 108 Yc:=by
 refine con [] Dx FOrL IOrL Yc ?_ ?_ Tryz.func108 Dw Dw Dw ?_
 .intro args pre s h a;unfold Yc at h;split at h
  .split at h
   .rename_i n f hx;cases h;exact⟨AC.lst n f,⟨Hl (AC.as_le hx a.1),J5⟩,by simp only[FOrL,RT.lst_length];exact a.2,rfl⟩
   .cases h
  .cases h
 .exact C0
 .rintro l a;replace a:l.length<=100000:=a;refine X0 _ ?_;(repeat' first|constructor|intro h)<;>refine Lm ?_
  refine⟨(0:Nat),⟨Je _,λj d=>Dv⟩,?_,?_⟩
  .exact X0c
  .intro i g;obtain⟨dv,c⟩:=g;refine X0 _ ?_;(repeat' first|constructor|intro h)<;>refine Lm ?_
   all_goals(try simp only[Ia,Ib]at*)
   all_goals(first
    |exact Ap
    |(exact(d5j c Dv Dz).symm)
    |(refine⟨i+1,⟨Dv,λj d=> ?_⟩,E7,?_⟩)
    |(exact(c71 (λj d=>c j Dv)).symm)
    |skip)
   .by_cases e:j=i
    .subst e;exact h
    .exact c j Dv
   .exact X0d
section
open Go.Sort Go.Proofs Go.Shelf
def Vs:AM
 | [.agg [.int .u8 p,.int .i64 a,.int .i64 _],.agg [.int .u8 q,.int .i64 c,.int .i64 _],s]=>(Vz s).map λz=>(z.1/\(0<=a/\a<z.2.length)/\0<=c/\c<z.2.length,.int .i64 (LU [CE p q,CE (z.2.getD a.toNat 0) (z.2.getD c.toNat 0)]))
 |_=>none
def FSrt2:Fam:=⟨(Int×Int×Int×Int×Int×Int)×List Int×C8,λ((p,a,b,q,c,d),l,z)=>[.agg [.int .u8 p,.int .i64 a,.int .i64 b],.agg [.int .u8 q,.int .i64 c,.int .i64 d],capS l z],λ((_,a,_,_,c,_),l,_)=>(0<=a/\a<l.length)/\0<=c/\c<l.length,λ((p,a,_,q,c,_),l,_)=>.int .i64 (LU [CE p q,CE (l.getD a.toNat 0) (l.getD c.toNat 0)])⟩
theorem pSrt2:PS 142 Vs:=by
 refine con [(115,Tp),(143,f06),(108,Yc)] (by simpa using⟨pCmp,pCmp8,pOrL⟩) FSrt2 (λ_ _=>none) Vs ?_ ?_ Tryz.func142 Dw Dw Dw ?_
 .intro args pre s h e;unfold Vs at h;split at h
  .rename_i p a b q c d x;simp only[J7]at h;obtain⟨⟨w,l⟩,hx,f⟩:=h;cases f;obtain⟨z,g⟩:=d3k hx e.1;exact⟨((p,a,b,q,c,d),l,z),⟨Eb,Eb,g,J5⟩,e.2,rfl⟩
  .cases h
 .exact C1
 .rintro⟨⟨p,a,b,q,c,d⟩,l,x1,x2,x3,x4,x5,x6,x7,cp⟩ e;replace e:(0<=a/\a<l.length)/\0<=c/\c<l.length:=e;refine X0 _ ?_;(repeat' first|constructor|intro h)<;>refine Lm ?_
  all_goals(first
   |exact e.1
   |exact e.2
   |rfl
   |exact⟨λi j=>match i,j with
    |0,_=>rfl
    |1,_=>rfl,Dv⟩
   |skip)
def Pr(l:List Int)(x:Lo):List Int:=[x.s,l.getD x.a.toNat 0]
theorem lo_cmp(p q a b:Int):LU [CE p q,CE a b]=BC [p,a] [q,b]:=by
 simp only[LU,BC];by_cases e:p=q
 .subst e;rw[Iz rfl,show CE p p=0 by simp[CE],Iz rfl];by_cases c:a=b
  .subst c;simp[CE]
  .rw[J3 c];split<;>simp_all
 .rw[J3 e,J3];unfold CE;split<;>(try split)<;>omega
def c0c:LD:=λ_ d n g b=>match b with
 | [.clo f [c]]=>if f=142/\d=3 then(Vz c).map λq=>(q.1/\CA.is n g/\n<=100000/\(∀x∈CA.lst n g,0<=x.a/\x.a<q.2.length)/\(∀x∈CA.lst n g,∀y∈CA.lst n g,Pr q.2 x=Pr q.2 y->x=y),CA.row (GZ (Pr q.2) (CA.lst n g)),false)else none
 |_=>none
theorem g16:ES 141 c0c:=by
 refine g22 CA Tryz.sortLoop rfl ⟨_,Tryz.func141,Dw,Dw⟩ (λw=>Tryz.isAgg158 w) (λw=>Tryz.sizeOf158 w) (λ_=>rfl) (λx s hs=> ?_) Vs pSrt2 (enters_of Tryz.func142 Dw rfl) c0c ?_
 .simp[CA]at hs;rcases hs with rfl|rfl|rfl
  .exact Ca
  .exact Ca
  .exact Ca
 .intro T sz n g rest pre g' r h;unfold c0c at h;split at h;rotate_left
  .cases h
  rename_i f c;split at h;rotate_left
  .cases h
  rename_i e;obtain⟨rfl,rfl⟩:=e;simp only[J7]at h;obtain⟨⟨q,l⟩,hx,i⟩:=h;cases i;refine⟨rfl,rfl,[c],Pr l,rfl,λd=>⟨d.2.1,d.2.2.1,λx j y k=> ?_,d.2.2.2.2,rfl⟩⟩;refine⟨q/\(0<=x.a/\x.a<l.length)/\0<=y.a/\y.a<l.length,?_,d.1,d.2.2.2.1 x j,d.2.2.2.1 y k⟩;show Vs [.agg [.int .u8 x.s,.int .i64 x.a,.int .i64 x.b],.agg [.int .u8 y.s,.int .i64 y.a,.int .i64 y.b],c]=_;simp only[Vs,hx,Kb,Pr,lo_cmp]
end
section
open Go.Sort Go.Proofs Go.Shelf
section
variable{α:Type} [Inhabited α] {enc:α->Value}{w:World}{b o m:Nat}{d:Array α}{os:Array Obj}
theorem d9m{i:Nat}(hi:i<w.heap.size)(a:i≠b):(grow (Go.Sort.putRow enc (Sort.ahead w m) b o d) os).heap[i]?=w.heap[i]?:=by rw[heap_grow_old _ _ I0];show (w.heap.modify b _)[i]?=_;rw[Md,J3 (Ne.symm a)]
theorem d57{c:Array Value}{T:TypeId}{z:Nat×Nat}(h:w.heap[b]?=some (.cells c T z)):(grow (Go.Sort.putRow enc (Sort.ahead w m) b o d) os).heap[b]?=some (.cells (putCells enc o d c) T z):=by have hi:b<w.heap.size:=(K9.1 h).1;rw[heap_grow_old _ _ I0];show (w.heap.modify b _)[b]?=_;rw[Md,Iz rfl,h];rfl
theorem f7s:w.heap.size<=(grow (Go.Sort.putRow enc (Sort.ahead w m) b o d) os).heap.size:=by simp[grow,Go.Sort.putRow,mapBlock,Sort.ahead]
theorem fr_pr{X:Nat->Prop}(a:X b):Fr w.heap.size X w (grow (Go.Sort.putRow enc (Sort.ahead w m) b o d) os):=
 ⟨rfl,rfl,rfl,λ_=>Nat.le_add_right _ _,f7s,λ_ c f=>d9m c (λe=>f (e▸a))⟩
end
def VB(x:Int):List Int->List Int
 | []=>[x]
 |y::r=>if x<=y then x::y::r else y::VB x r
def Ny(l:List Int):List Int:=l.foldr VB []
theorem b59(x:Int):∀l,(VB x l).Perm (x::l)
 | []=>.refl _
 |y::r=>by
  simp only[VB];split
  .exact .refl _
  .exact((b59 x r).cons y).trans (.swap x y r)
theorem b1r:∀l,(Ny l).Perm l
 | []=>.refl _
 |x::l=>(b59 x _).trans ((b1r l).cons x)
theorem b0d(l:List Int):(Ny l).length=l.length:=(b1r l).length_eq
theorem d6r(l:List Int)(x:Int):x∈Ny l↔x∈l:=(b1r l).mem_iff
theorem b5e(x:Int):∀l,l.Pairwise (λa b=>a<=b)->(VB x l).Pairwise (λa b=>a<=b)
 | [],_=>List.pairwise_singleton _ _
 |y::r,h=>by
  have d:=Ki.1 h;simp only[VB];split
  .rename_i e;exact Ki.2 ⟨λz c=>by
    rcases Jd.1 c with rfl|c
    .exact e
    .exact Int.le_trans e (d.1 z c),h⟩
  .rename_i e;refine Ki.2 ⟨λz c=> ?_,b5e x r d.2⟩;rcases Jd.1 ((b59 x r).mem_iff.1 c)with rfl|c
   .omega
   .exact d.1 z c
theorem b40:∀l,(Ny l).Pairwise (λa b=>a<=b)
 | []=>List.Pairwise.nil
 |x::l=>b5e x _ (b40 l)
theorem c3v(l:List Int):(l.mergeSort λx y=>decide (x<=y))=Ny l:=by have f:=List.mergeSort_perm l (λx y=>decide (x<=y));refine List.Perm.eq_of_pairwise (le:=λa b=>a<=b) (λa b _ _ d e=>Int.le_antisymm d e) ?_ (b40 l) (f.trans (b1r l).symm);have:=List.pairwise_mergeSort (le:=λx y:Int=>decide (x<=y)) (λa b c d e=>by simp only[Jb]at*;omega) (λa b=>by simp only[K1,Jb];omega) l;exact this.imp λh=>E2
def d72:LD:=λ_ b n g a=>match a with
 | []=>if b=1 then some (AC.is n g/\n<=100000,AC.row (Ny (AC.lst n g)),false)else none
 |_=>none
theorem xSortI:ES 144 d72:=by
 refine⟨⟨_,Tryz.func144,Dw,Dw⟩,?_⟩;intro A w v T sz n g c rest d pre g' r hA f c6 K L k M;unfold d72 at k;split at k;rotate_left
 .cases k
 split at k;rotate_left
 .cases k
 rename_i N;subst N;cases k;obtain⟨O,hn⟩:=M;obtain rfl:d=[]:=by
  have:=L.1;match d,this with
  | [],_=>rfl
 obtain⟨a,m,rfl,y,B,C,hl,E⟩:=K;rcases Kg n with F|F
 .subst F;have l:=AnyM.slices_Sort_int_none Tryz.sortInts a m w;refine l.mono ?_;rintro e P ⟨rfl,rfl⟩;refine⟨_,rfl,λh=>E8,λ_=>rfl,⟨a,m,rfl,y,B,C,λi hi=>absurd hi Dv,?_⟩,Fr.refl _ _ _⟩;rcases E with h|⟨b,o,vs,c7,rfl,hh,ho,h1,G⟩
  .exact .inl h
  .exact Cz
 .rcases E with h|⟨b,o,vs,c7,rfl,hh,ho,h1,G⟩
  .omega
  have Q:b<w.heap.size:=(K9.1 hh).1;have u:(AC.lst n g).length=n:=RT.lst_length AC n g;have H:∀i,i<n->o+i<vs.length:=λi hi=>Dv;have R:∀i,i<n->vs[o+i]?=some (.int .i64 ((AC.lst n g).getD i 0)):=by intro i hi;have x:=H i hi;have I:=G i 0 (.int .i64 ((AC.lst n g).getD i 0)) (vs[o+i]) hi (by rw[O i hi];simp[RT.lst,hi];rfl) (by simp[Iy x]);rw[Iy x];generalize vs[o+i]=z at I⊢;cases I;rfl
  have S:Holds (Value.int .i64) w b o (AC.lst n g).toArray:=by
   intro t U;have J:t<n:=by simpa[u]using U
   refine⟨?_,?_⟩
   .simp only[World.cell?,hh,Option.isSome_none,Ik,List.getElem?_toArray];rw[R t J];simp[u,J]
   .simp[World.frozen?,hh]
  have l:=AnyM.slices_Sort_int Tryz.sortInts b o m (AC.lst n g) w S Q Dv;rw[u,c3v]at l;refine l.mono ?_;rintro e P ⟨rfl,q,os,rfl⟩;have j8:(Ny (AC.lst n g)).length=n:=by rw[b0d,u]
  refine⟨_,rfl,λh=>E8,λ_=>rfl,⟨_,m,rfl,y,B,C,λi hi=>⟨rfl,rfl⟩,.inr ⟨b,o,(putCells (Value.int .i64) o (Ny (AC.lst n g)).toArray vs.toArray).toList,c7,rfl,?_,?_,?_,?_⟩⟩,fr_pr (KD c7)⟩
  .first
   |(rw[d57 hh];done)
   |(rw[d57 hh];rfl)
  .simp[putCells];omega
  .intro v f;simp only[putCells,Array.toList_mapIdx,List.mem_mapIdx]at f;obtain⟨i,hi,rfl⟩:=f;split
   .rfl
   .exact h1 _ Dx
  .intro i j s v hi hs f;have V:j=0:=by
    have:=(J4.1 hs).1;have:(AC.row (Ny (AC.lst n g)) i).length=1:=rfl;omega
   subst V;have x:=H i hi;simp only[putCells,Array.toList_mapIdx,List.getElem?_mapIdx,Nat.mul_one,Lu,Iy x,Kb,Ju]at f;rw[Iz ⟨Dv,by simp[j8];omega⟩]at f;subst f;have e:s=.int .i64 ((Ny (AC.lst n g)).getD i 0):=by have:(AC.row (Ny (AC.lst n g)) i)[0]?=some (.int .i64 ((Ny (AC.lst n g)).getD i 0)):=rfl;rw[this]at hs;exact(K6 hs).symm
   subst e;rw[show o+i-o=i from Dv,Lh _ i Fw];simp[j8,hi];exact .int
end
def b0u:AM
 | [.sl 2 n f _]=>some (n<=100000/\∀i,i<n->(f i).all SV.flat0=true,.sl 2 n f none)
 | [.con (.slice none 0 0)]=>some (True,.sl 2 0 (λ_=>[]) none)
 |_=>none
def c41:Fam:=⟨Nat×(Nat->List SV),λ(n,f)=>[.sl 2 n f none],λ(n,f)=>n<=100000/\∀i,i<n->(f i).all SV.flat0=true,λ(n,f)=>.sl 2 n f none⟩
theorem c5e:PF 146 b0u:=by
 refine conF {} ⟨Dx,Dx,Dx⟩ c41 (λ_ _=>none) b0u ?_ ?_ Tryz.func146 Dw Dw Dw ?_
 .intro args pre s h hp;unfold b0u at h;split at h
  .rename_i n f c;cases h;exact C3
  .cases h;exact D2
  .cases h
 .exact C0
 .rintro⟨n,f⟩ ⟨hp,dp⟩;refine X0 _ ?_;(repeat' first|constructor|intro h)<;>refine Lm ?_
  all_goals(first
   |exact Av
   |(intro i hi;simp;done)
   |skip)
def b0s:AM
 | [.sl 3 n f _]=>some (n<=100000/\∀i,i<n->(f i).all SV.flat0=true,.sl 3 n f none)
 | [.con (.slice none 0 0)]=>some (True,.sl 3 0 (λ_=>[]) none)
 |_=>none
def c43:Fam:=⟨Nat×(Nat->List SV),λ(n,f)=>[.sl 3 n f none],λ(n,f)=>n<=100000/\∀i,i<n->(f i).all SV.flat0=true,λ(n,f)=>.sl 3 n f none⟩
theorem c3m:PF 148 b0s:=by
 refine conF {} ⟨Dx,Dx,Dx⟩ c43 (λ_ _=>none) b0s ?_ ?_ Tryz.func148 Dw Dw Dw ?_
 .intro args pre s h hp;unfold b0s at h;split at h
  .rename_i n f c;cases h;exact C3
  .cases h;exact D2
  .cases h
 .exact C0
 .rintro⟨n,f⟩ ⟨hp,dp⟩;refine X0 _ ?_;(repeat' first|constructor|intro h)<;>refine Lm ?_
  all_goals(first
   |exact Av
   |(intro i hi;simp;done)
   |skip)
def b1h:AM
 | [.sl 1 n f _]=>some (n<=100000/\∀i,i<n->(f i).all SV.flat0=true,.sl 1 n f none)
 | [.con (.slice none 0 0)]=>some (True,.sl 1 0 (λ_=>[]) none)
 |_=>none
def d0v:Fam:=⟨Nat×(Nat->List SV),λ(n,f)=>[.sl 1 n f none],λ(n,f)=>n<=100000/\∀i,i<n->(f i).all SV.flat0=true,λ(n,f)=>.sl 1 n f none⟩
theorem d0j:PF 131 b1h:=by
 refine conF {} ⟨Dx,Dx,Dx⟩ d0v (λ_ _=>none) b1h ?_ ?_ Tryz.func131 Dw Dw Dw ?_
 .intro args pre s h hp;unfold b1h at h;split at h
  .rename_i n f c;cases h;exact C3
  .cases h;exact D2
  .cases h
 .exact C0
 .rintro⟨n,f⟩ ⟨hp,dp⟩;refine X0 _ ?_;(repeat' first|constructor|intro h)<;>refine Lm ?_
  all_goals(first
   |exact Av
   |(intro i hi;simp;done)
   |skip)
structure Ky where
 a:Cl
 b:Cl
 deriving DecidableEq
def HA:RT Ky:=⟨6,λk=>[.int .i64 k.a.x,.int .i64 k.a.y,.int .u8 k.a.q,.int .i64 k.b.x,.int .i64 k.b.y,.int .u8 k.b.q],λl=>match l with
 | [.int _ a,.int _ b,.int _ c,.int _ d,.int _ e,.int _ f]=>⟨⟨a,b,c⟩,⟨d,e,f⟩⟩
 |_=>⟨⟨0,0,0⟩,⟨0,0,0⟩⟩,⟨⟨0,0,0⟩,⟨0,0,0⟩⟩,λ_=>rfl⟩
def GC(s:Sm):Ky:=⟨s.a,s.b⟩
theorem d6y(S:List Sm)(i:Nat):KB S i=HA.row (S.map GC) i:=by
 have:(S.map GC).getD i HA.d=GC (S.getD i BB):=by simp only[Ix,Jr];cases S[i]?<;>rfl
 unfold KB RT.row;rw[this];rfl
def c8c(b:Bd)(S:List Sm)(K:List Ky):List Blk:=[.cells 188 [.int .i64 b.p.W,.int .i64 b.p.H,.sl 3 b.p.l.length (DZ b.p.l) none,.sl 3 b.pl.length (AH.row b.pl) none,.sl 3 b.im.length (DE.row b.im) none,.osl 2,.omp 3,.osl 4],
 .fam 156 [(229,2),(158,3),(3,1)] S.length none (λi=>Jo (S.getD i BB)),
 .row 3 1 b.ht.length (AC.row b.ht) none,.pmap (.ints [.i64,.i64,.u8,.i64,.i64,.u8]) 1 (DU S) (CG S),.row 193 6 K.length (HA.row K) none]
def f7y:List Blk->Option (Prop×Bd×List Sm×List Ky)
 | [.cells l [.int .i64 W,.int .i64 H,m,pl,o,.osl k1,.omp k2,.osl k3],.fam p r b s F,.row t u c d _,.pmap K k4 a BV,.row v w e g _]=>
   match PT m,AH.as pl,DE.as o with
   |some (n,f),some (h,f2),some (j,k)=>if(l=188/\k1=2/\k2=3/\k3=4/\t=3/\u=1)/\(K=.ints [.i64,.i64,.u8,.i64,.i64,.u8]/\k4=1/\v=193/\w=6)/\p=156/\r=[(229,2),(158,3),(3,1)]/\s=none then
    some (((MN n f/\n<=100000)/\AH.is h f2/\DE.is j k/\AC.is c d)/\HA.is e g/\(∀q,a q=DU (LI b F) q)/\(∀q,a q=true->BV q=CG (LI b F) q)/\∀i,i<b->(F i).le (Jo (TS (F i))),
    ⟨⟨W,H,EF n f⟩,AH.lst h f2,DE.lst j k,AC.lst c d⟩,LI b F,HA.lst e g)
    else none
   |_,_,_=>none
 |_=>none
theorem d9g{own:List Blk}{q:Prop}{b:Bd}{S:List Sm}{K:List Ky}(h:f7y own=some (q,b,S,K))(d:q):own.length=5/\SU 5 own (c8c b S K)/\b.p.l.length<=100000:=by
 unfold f7y at h;split at h;rotate_left
 .cases h
 rename_i T1 W H cr pl im k1 k2 k3 T4 Ts a bt F T2 z2 e g c1 KK k4 has BV T3 z3 j k c2;split at h;rotate_left
 .cases h
 rename_i n f n2 f2 n3 f3 h1 h2 h3;split at h;rotate_left
 .cases h
 rename_i m;obtain⟨⟨rfl,rfl,rfl,rfl,rfl,rfl⟩,⟨rfl,rfl,rfl,rfl⟩,rfl,rfl,rfl⟩:=m;simp only[Id]at h;obtain⟨rfl,rfl,rfl,rfl⟩:=h;obtain⟨⟨q1,q2,q3,o⟩,r,s,t,u⟩:=d;refine⟨rfl,⟨⟨?_,?_⟩,⟨?_,?_,rfl,?_⟩,⟨?_,?_,?_,?_⟩,⟨?_,s,t⟩,⟨?_,?_,?_,?_⟩,J5⟩,Ha⟩
 .exact Cb
 .exact Dk
 .rw[Iz ⟨rfl,rfl,rfl⟩];trivial
 .exact(b3p a F).symm
 .intro i c;have:(LI a F).getD i BB=TS (F i):=by simp[LI,c]
  show (F i).le (Jo ((LI a F).getD i BB));rw[this];exact u i c
 .exact Cb
 .exact(RT.lst_length AC e g).symm
 .exact J5
 .exact RZ (AC.row_lst o)
 .rw[Iz ⟨rfl,rfl,Dy⟩];trivial
 .exact Cb
 .exact(RT.lst_length HA j k).symm
 .exact J5
 .exact RZ (HA.row_lst r)
def JK(b:Bd)(s:Sm):Sm:={s with ps:=GZ (Oz b.ht) s.ps,ls:=GZ (Pr b.ht) s.ls,en:=Ny s.en}
def smSV(s:Sm):SV:=.agg [.int .i64 s.a.x,.int .i64 s.a.y,.int .u8 s.a.q,.int .i64 s.b.x,.int .i64 s.b.y,.int .u8 s.b.q,.sl 2 s.ps.length (BT.row s.ps) (some s.ps.length),.sl 3 s.ls.length (CA.row s.ls) (some s.ls.length),.sl 1 s.en.length (AC.row s.en) (some s.en.length)]
def c9e(b:Bd)(s:Sm):Prop:=(s.ps.length<=100000/\s.ls.length<=100000/\s.en.length<=100000)/\((∀x∈s.ps,0<=x.a/\x.a<b.ht.length)/\∀x∈s.ls,0<=x.a/\x.a<b.ht.length)/\(∀x∈s.ps,∀y∈s.ps,Oz b.ht x=Oz b.ht y->x=y)/\∀x∈s.ls,∀y∈s.ls,Pr b.ht x=Pr b.ht y->x=y
theorem c97(b:Bd)(s:Sm):BN (JK b s)=BN s:=rfl
theorem b3q(b:Bd)(S:List Sm)(i:Nat):(S.set i (JK b (S.getD i BB))).map BN=S.map BN:=b2a _ _ _ (c97 b _)
theorem c9p(b:Bd)(S:List Sm)(i:Nat):∀q,DU S q=DU (S.set i (JK b (S.getD i BB))) q:=λq=>by rw[Tk,Tk,b3q]
theorem c9x(b:Bd)(S:List Sm)(i:Nat):∀q,DU S q=true->CG S q=CG (S.set i (JK b (S.getD i BB))) q:=λq _=>by rw[WM,WM,b3q]
theorem c9u(b:Bd)(S:List Sm)(i:Nat):∀j,j<S.length->KB S j=KB (S.set i (JK b (S.getD i BB))) j:=λj a=>c1z (b3q b S i).symm j a
theorem c9t(b:Bd)(S:List Sm)(i:Nat):S.length=(S.set i (JK b (S.getD i BB))).length:=Dx
def b4q:HK:=λa own=>match a with
 | [.own 0 0,.fp b 1 i 0]=>(f7y own).map λq=>⟨q.1/\b=true/\i<q.2.2.1.length/\c9e q.2.1 (q.2.2.1.getD i BB),smSV (JK q.2.1 (q.2.2.1.getD i BB)),c8c q.2.1 (q.2.2.1.set i (JK q.2.1 (q.2.2.1.getD i BB))) q.2.2.2,[1]⟩
 |_=>none
def d9u:FamH:=⟨(Bd×List Sm×List Ky)×Nat,λ(_,i)=>[.own 0 0,.fp true 1 i 0],λ((b,S,K),_)=>c8c b S K,λ((b,S,_),i)=>b.p.l.length<=100000/\i<S.length/\c9e b (S.getD i BB),λ((b,S,_),i)=>smSV (JK b (S.getD i BB)),λ((b,S,K),i)=>c8c b (S.set i (JK b (S.getD i BB))) K,[1]⟩
theorem f2n:HS 109 b4q:=by
 refine HG {l:=[(145,b2j),(147,b2h),(130,Wb)],fs:=[(146,b0u),(148,b0s),(131,b1h)],fsok:=by simpa using⟨c5e,c3m,d0j⟩,x:=[(139,b9q),(141,c0c),(144,d72)],G:={g0:=[.focus 1],gx:=λ_=>[.unfocus 1]}} ⟨by simpa using⟨d5d,d39,c0k⟩,by simpa using⟨f7u,g16,xSortI⟩,Dx⟩ d9u (λ_ _=>none) b4q ?_ ?_ ?_ Tryz.func109 Dw Dw Dw ?_
 .intro args own r h a;unfold b4q at h;split at h
  .rename_i ok i;simp only[J7]at h;obtain⟨⟨q,k,S,K⟩,hx,rfl⟩:=h;obtain⟨m,n,o⟩:=d9g hx a.1;obtain⟨_,rfl,a⟩:=a;exact⟨((k,S,K),i),⟨E4,E4,J5⟩,m,n,⟨o,a⟩,rfl,rfl,rfl⟩
  .cases h
 .exact Bz
 .intro i;show 5<=5;decide
 .rintro⟨⟨b,S,K⟩,i⟩ μ ⟨zn,c,⟨d,f,g⟩,⟨s,t⟩,u,v⟩;refine X0 _ ?_;(repeat' first|constructor|intro h)<;>refine Lm ?_
  all_goals(try simp only[RT.lst_row]at*)
  all_goals(first
   |exact⟨J5,c⟩
   |exact⟨⟨⟨λ_=>J5,J5⟩,RT.is_row BT _,d,s,u⟩,λ_ _=>rfl⟩
   |exact⟨⟨⟨λ_=>J5,J5⟩,RT.is_row CA _,f,t,v⟩,λ_ _=>rfl⟩
   |exact⟨RT.is_row AC _,g⟩
   |exact⟨d,λ_ _=>rfl⟩
   |exact⟨f,λ_ _=>rfl⟩
   |exact⟨g,λ_ _=>rfl⟩
   |exact d
   |exact f
   |exact g
   |exact A2
   |exact(Rf _ _).symm
   |exact Mc some (Rf _ _).symm
   |exact(b0d _).symm
   |exact Mc some (b0d _).symm
   |exact c9p _ _ _
   |exact c9x _ _ _
   |exact c9u _ _ _
   |exact c9t _ _ _
   |(intro j hj
     by_cases e:j=i
     .subst e;rw[Iz rfl,b1d c,Iz rfl];exact⟨rfl,(Rf _ _).symm,λ_ _=>rfl,(Rf _ _).symm,λ_ _=>rfl,(b0d _).symm,λ_ _=>rfl,J5⟩
     .rw[J3 e,b1d c,J3 e];exact UM _)
   |skip)
def vM(m:Mv):Prop:=0<=m.t/\DV m.t m.x m.y=0
def vC(c:Cl):Prop:=(-4096<=c.x/\c.x<=4096)/\(-4096<=c.y/\c.y<=4096)/\0<=c.q/\c.q<=3
def Dl(m:Mv)(c:Cl):Cl:=⟨LN m.t m.x m.y c.x c.y,MB m.t m.x m.y c.x c.y,KV m.t c.q⟩
def AQ(c:Cl)(e:Int):Cl:=⟨EK c.q e+c.x,EL c.q e+c.y,EN c.q e⟩
theorem FX{m:Mv}(h:vM m):m.t=0\/m.t=1\/m.t=2\/m.t=3\/m.t=4\/m.t=5\/m.t=6\/m.t=7:=by
 obtain⟨h0,a⟩:=h;unfold DV at a;split at a
 .omega
 .omega
theorem Nz{m:Mv}(h:vM m):(-16384<=m.x/\m.x<=16384)/\(-16384<=m.y/\m.y<=16384)/\(m.x+m.y)%2=0:=by
 obtain⟨h0,a⟩:=h;unfold DV at a;split at a
 .omega
 .omega
theorem ET{q:Int}(h:0<=q/\q<=3):q=0\/q=1\/q=2\/q=3:=Dv
theorem GI{e:Int}(h:0<=e/\e<3):e=0\/e=1\/e=2:=Dv
def AR(t:Int)(a b:Int):Int×Int:=if t=0 then(a,b)else if t=1 then(-b,a)else if t=2 then(-a,-b)else if t=3 then(b,-a)else if t=4 then(-a,b)else if t=5 then(-b,-a)else if t=6 then(a,-b)else(b,a)
theorem b49{t a b:Int}(h:t=0\/t=1\/t=2\/t=3\/t=4\/t=5\/t=6\/t=7):JW t a b=(AR t a b).1/\JX t a b=(AR t a b).2:=by rcases h with rfl|rfl|rfl|rfl|rfl|rfl|rfl|rfl<;>simp[JW,JX,AR,tA,tB,tC,tD,tb]
theorem po_eq{m:Mv}{a b:Int}(h:vM m)(ha: -9000<=a/\a<=9000)(hb: -9000<=b/\b<=9000):OA m.t m.x m.y a b=(AR m.t a b).1+2*m.x/\Nw m.t m.x m.y a b=(AR m.t a b).2+2*m.y:=by
 have h1:=Nz h;have c:=@b49 m.t a b (FX h);have e:QH m.t m.x m.y a b=0:=by unfold QH;rw[Iz ⟨h.2,by unfold LP;rw[if_pos];omega⟩,if_pos];rw[c.1,c.2];unfold LP;rw[Iz];rcases FX h with e|e|e|e|e|e|e|e<;>simp only[AR,e]<;>simp<;>omega
 unfold OA Nw keep;rw[Iz e,Iz e,c.1,c.2];exact⟨rfl,rfl⟩
theorem c99{p:Int}(h:p%2=1):Qm p=(p-1)/2:=by unfold Qm;rw[h,Int.tdiv_eq_ediv];split<;>omega
def sq(t:Int)(X Y:Int):Int×Int:=if t=0 then(X,Y)else if t=1 then(-Y-1,X)else if t=2 then(-X-1,-Y-1)else if t=3 then(Y,-X-1)else if t=4 then(-X-1,Y)else if t=5 then(-Y-1,-X-1)else if t=6 then(X,-Y-1)else(Y,X)
theorem mv_sq{m:Mv}{X Y:Int}(h:vM m)(hx: -4200<=X/\X<=4200)(hy: -4200<=Y/\Y<=4200):LN m.t m.x m.y X Y=(sq m.t X Y).1+m.x/\MB m.t m.x m.y X Y=(sq m.t X Y).2+m.y:=by have a:=@po_eq m (2*X+1) (2*Y+1) h Dv Dv;unfold LN MB;rw[a.1,a.2];rcases FX h with e|e|e|e|e|e|e|e<;>simp only[AR,sq,e]<;>simp<;>(rw[c99 Dv,c99 Dv];omega)
def tq(t:Int)(q:Int):Int:=tb (if t=0 then [0,1,2,3]else if t=1 then [1,2,3,0]else if t=2 then [2,3,0,1]else if t=3 then [3,0,1,2]else if t=4 then [0,3,2,1]else if t=5 then [1,0,3,2]else if t=6 then [2,1,0,3]else [3,2,1,0]) q.toNat
theorem mvQ_tq{t q:Int}(h:t=0\/t=1\/t=2\/t=3\/t=4\/t=5\/t=6\/t=7)(a:0<=q/\q<=3):KV t q=tq t q:=by rcases h with rfl|rfl|rfl|rfl|rfl|rfl|rfl|rfl<;>rcases ET a with rfl|rfl|rfl|rfl<;>rfl
theorem JG{m:Mv}{c:Cl}(h:vM m)(a:(-4200<=c.x/\c.x<=4200)/\(-4200<=c.y/\c.y<=4200)/\0<=c.q/\c.q<=3):Dl m c=⟨(sq m.t c.x c.y).1+m.x,(sq m.t c.x c.y).2+m.y,tq m.t c.q⟩:=by have b:=mv_sq h a.1 a.2.1;unfold Dl;rw[b.1,b.2,mvQ_tq (FX h) a.2.2]
theorem b68{c:Cl}(h:vC c):(-4200<=c.x/\c.x<=4200)/\(-4200<=c.y/\c.y<=4200)/\0<=c.q/\c.q<=3:=by unfold vC at h;omega
theorem Cl.ext'{a b:Cl}(h1:a.x=b.x)(h2:a.y=b.y)(h3:a.q=b.q):a=b:=I1
theorem d13{m:Mv}{c d:Cl}(h:vM m)(g:vC c)(i:vC d)(e:Dl m c=Dl m d):c=d:=by
 rw[JG h (b68 g),JG h (b68 i)]at e;simp only[Cl.mk.injEq]at e;obtain⟨j,k,f⟩:=e;have l:c.q=d.q:=by rcases FX h with e|e|e|e|e|e|e|e<;>simp only[e,tq]at f<;>rcases ET g.2.2 with a|a|a|a<;>rcases ET i.2.2 with b|b|b|b<;>rw[a,b]at f⊢ <;>revert f<;>decide
 refine Cl.ext' ?_ ?_ l<;>(rcases FX h with e|e|e|e|e|e|e|e<;>simp only[e,sq]at j k<;>simp at j k<;>omega)
theorem f1b{a b:Mv}(h:HF a.t a.x a.y b.t b.x b.y=0):DV a.t a.x a.y=0/\DV b.t b.x b.y=0/\MP (cT a.t b.t) (JW b.t a.x a.y+b.x) (JX b.t a.x a.y+b.y)=0:=by
 unfold HF at h;split at h
 .rename_i e;exact⟨e.1,e.2,h⟩
 .cases h
def tt(t u:Int):Int:=tb (tbl u.toNat) t.toNat
where tbl:Nat->List Int
 |0=>[0,1,2,3,4,5,6,7]
 |1=>[1,2,3,0,5,6,7,4]
 |2=>[2,3,0,1,6,7,4,5]
 |3=>[3,0,1,2,7,4,5,6]
 |4=>[4,7,6,5,0,3,2,1]
 |5=>[5,4,7,6,1,0,3,2]
 |6=>[6,5,4,7,2,1,0,3]
 |_=>[7,6,5,4,3,2,1,0]
theorem f7e{t u:Int}(h:t=0\/t=1\/t=2\/t=3\/t=4\/t=5\/t=6\/t=7)(k:u=0\/u=1\/u=2\/u=3\/u=4\/u=5\/u=6\/u=7):cT t u=tt t u:=by rcases h with rfl|rfl|rfl|rfl|rfl|rfl|rfl|rfl<;>rcases k with rfl|rfl|rfl|rfl|rfl|rfl|rfl|rfl<;>rfl
theorem Vv{a b:Mv}(j:0<=a.t)(k:0<=b.t)(h:HF a.t a.x a.y b.t b.x b.y=0):HC a b=⟨tt a.t b.t,(AR b.t a.x a.y).1+b.x,(AR b.t a.x a.y).2+b.y⟩/\vM a/\vM b/\vM (HC a b):=by
 obtain⟨l,m,f⟩:=f1b h;have g:vM a:=⟨j,l⟩
 have d:vM b:=⟨k,m⟩
 have e:=@b49 b.t a.x a.y (FX d);have n:HC a b=⟨cT a.t b.t,JW b.t a.x a.y+b.x,JX b.t a.x a.y+b.y⟩:=by simp[HC,Qp,Wv,VJ,keep,h]
 rw[n];have i:=f7e (FX g) (FX d);refine⟨by rw[e.1,e.2,i],g,d,?_,?_⟩
 .show 0<=cT a.t b.t;rw[i];rcases FX g with e|e|e|e|e|e|e|e<;>rcases FX d with c|c|c|c|c|c|c|c<;>rw[e,c]<;>decide
 .unfold MP at f;split at f
  .assumption
  .cases f
theorem f2c{t q:Int}(h:t=0\/t=1\/t=2\/t=3\/t=4\/t=5\/t=6\/t=7)(a:0<=q/\q<=3):0<=tq t q/\tq t q<=3:=by rcases h with rfl|rfl|rfl|rfl|rfl|rfl|rfl|rfl<;>rcases ET a with rfl|rfl|rfl|rfl<;>decide
theorem tq_tt{t u q:Int}(h:t=0\/t=1\/t=2\/t=3\/t=4\/t=5\/t=6\/t=7)(k:u=0\/u=1\/u=2\/u=3\/u=4\/u=5\/u=6\/u=7)(a:0<=q/\q<=3):tq (tt t u) q=tq u (tq t q):=by rcases h with rfl|rfl|rfl|rfl|rfl|rfl|rfl|rfl<;>rcases k with rfl|rfl|rfl|rfl|rfl|rfl|rfl|rfl<;>rcases ET a with rfl|rfl|rfl|rfl<;>decide
theorem sq_tt{t u X Y x y:Int}(h:t=0\/t=1\/t=2\/t=3\/t=4\/t=5\/t=6\/t=7)(k:u=0\/u=1\/u=2\/u=3\/u=4\/u=5\/u=6\/u=7):(sq (tt t u) X Y).1+(AR u x y).1=(sq u ((sq t X Y).1+x) ((sq t X Y).2+y)).1/\(sq (tt t u) X Y).2+(AR u x y).2=(sq u ((sq t X Y).1+x) ((sq t X Y).2+y)).2:=by rcases h with rfl|rfl|rfl|rfl|rfl|rfl|rfl|rfl<;>rcases k with rfl|rfl|rfl|rfl|rfl|rfl|rfl|rfl<;>(simp[sq,tt,tt.tbl,tb,AR];try omega)
theorem b9n{a b:Mv}{c:Cl}(i:0<=a.t)(j:0<=b.t)(h:HF a.t a.x a.y b.t b.x b.y=0)(d:vC c)(k:vC (Dl a c)):Dl (HC a b) c=Dl b (Dl a c):=by obtain⟨e,f,g,l⟩:=Vv i j h;rw[JG g (b68 k),JG l (b68 d),JG f (b68 d),e];simp only[Cl.mk.injEq];have:=@sq_tt a.t b.t c.x c.y a.x a.y (FX f) (FX g);refine⟨Dv,Dv,tq_tt (FX f) (FX g) d.2.2⟩
theorem f7b{C:Int}(h: -4096<=C/\C<=4096):EW 1 C=⟨4,2*C,0⟩/\vM ⟨4,2*C,0⟩:=by
 refine⟨?_,(by show (0:Int)<=4;omega),?_⟩
 .simp[EW,keep,FY,h,Og,RE,Ri]
 .exact Cg
theorem g0s{C:Int}(h: -4096<=C/\C<=4096):EW 2 C=⟨6,0,2*C⟩/\vM ⟨6,0,2*C⟩:=by
 refine⟨?_,(by show (0:Int)<=6;omega),?_⟩
 .simp[EW,keep,FY,h,Og,RE,Ri]
 .exact Cg
theorem ref_u{C:Int}(h: -4096<=C/\C<=4096):EW 3 C=⟨5,C,C⟩/\vM ⟨5,C,C⟩:=by
 refine⟨?_,(by show (0:Int)<=5;omega),?_⟩
 .simp[EW,keep,FY,h,Og,RE,Ri]
 .exact Cg
theorem ref_d{C:Int}(h: -4096<=C/\C<=4096):EW 4 C=⟨7,-C,C⟩/\vM ⟨7,-C,C⟩:=by
 refine⟨?_,(by show (0:Int)<=7;omega),?_⟩
 .simp[EW,keep,FY,h,Og,RE,Ri]
 .exact Cg
theorem b8g{c:Cl}{e:Int}(b:0<=e/\e<3)(a:(-300<=c.x/\c.x<=300)/\(-300<=c.y/\c.y<=300)/\0<=c.q/\c.q<=3):
 vM (EW (DB c.q e) (DF c.x c.y c.q e))/\Dl (EW (DB c.q e) (DF c.x c.y c.q e)) c=AQ c e/\Dl (EW (DB c.q e) (DF c.x c.y c.q e)) (AQ c e)=c/\
 ((-700<=(EW (DB c.q e) (DF c.x c.y c.q e)).x/\(EW (DB c.q e) (DF c.x c.y c.q e)).x<=700)/\ -700<=(EW (DB c.q e) (DF c.x c.y c.q e)).y/\(EW (DB c.q e) (DF c.x c.y c.q e)).y<=700):=by
 obtain⟨X,Y,Q⟩:=c;simp only at a;rcases ET a.2.2 with rfl|rfl|rfl|rfl<;>rcases GI b with rfl|rfl|rfl<;>
 .simp[DB,DF,IJ,JY,tb];first
   |obtain⟨r,vm⟩:=@f7b X Dv
    rw[r];refine⟨vm,?_,?_,?_⟩<;>first|exact B7|(rw[JG vm Fj];simp[AQ,sq,tq,EK,EL,EN,tb];done)|exact Aa
   |obtain⟨r,vm⟩:=@f7b (X+1) Dv
    rw[r];refine⟨vm,?_,?_,?_⟩<;>first|exact B7|(rw[JG vm Fj];simp[AQ,sq,tq,EK,EL,EN,tb];done)|exact Aa
   |obtain⟨r,vm⟩:=@g0s Y Dv
    rw[r];refine⟨vm,?_,?_,?_⟩<;>first|exact B7|(rw[JG vm Fj];simp[AQ,sq,tq,EK,EL,EN,tb];done)|exact Aa
   |obtain⟨r,vm⟩:=@g0s (Y+1) Dv
    rw[r];refine⟨vm,?_,?_,?_⟩<;>first|exact B7|(rw[JG vm Fj];simp[AQ,sq,tq,EK,EL,EN,tb];done)|exact Aa
   |obtain⟨r,vm⟩:=@ref_u (X+Y+1) Dv
    rw[r];refine⟨vm,?_,?_,?_⟩<;>first|exact B7|(rw[JG vm Fj];simp[AQ,sq,tq,EK,EL,EN,tb];done)|exact Aa
   |obtain⟨r,vm⟩:=@ref_d (Y-X) Dv
    rw[r];refine⟨vm,?_,?_,?_⟩<;>first|exact B7|(rw[JG vm Fj];simp[AQ,sq,tq,EK,EL,EN,tb];done)|exact Aa
   |skip
theorem d4g{W H:Int}{has:List Int->Bool}{s b:BS}{i e:Int}(h:LK W H has s i e=some b)(a:∀m∈s.out,0<=m.t/\m.t<=255):b.out.length=s.out.length/\∀m∈b.out,0<=m.t/\m.t<=255:=by
 unfold LK at h;split at h
 .simp only at h;split at h
  .cases h;cases s.kn.getD (AG W H i e).toNat false with
   |true=>exact⟨rfl,a⟩
   |false=>
    simp only[cond_false];refine⟨Dx,b3r a (c2f ?_)⟩;rw[Ix];cases hg:s.out[i.toNat]? with
    |none=>decide
    |some m=>exact a m (J6 hg)
  .cases h
 .cases h;exact⟨rfl,a⟩
theorem c2y{W H:Int}{has:List Int->Bool}{i:Int}:∀(l:List Int) {s f:BS},MZ W H has i l s=some f->(∀m∈s.out,0<=m.t/\m.t<=255)->f.out.length=s.out.length/\∀m∈f.out,0<=m.t/\m.t<=255
 | [],s,f,h,g=>by cases h;exact⟨rfl,g⟩
 |e::l,s,f,h,g=>by simp only[MZ,J8]at h;obtain⟨s1,j,k⟩:=h;obtain⟨a,b⟩:=d4g j g;obtain⟨c,d⟩:=c2y l k b;exact⟨c.trans a,d⟩
theorem d35{W H:Int}{has:List Int->Bool}:∀(f:Nat) {s:BS} {l:List Mv},IV W H has f s=some l->(∀m∈s.out,0<=m.t/\m.t<=255)->l.length=s.out.length/\∀m∈l,0<=m.t/\m.t<=255
 |0,s,l,h,e=>by
  simp only[IV]at h;split at h<;>cases h
  exact⟨rfl,e⟩
 |f+1,s,l,h,e=>by
  simp only[IV]at h;split at h
  .cases h;exact⟨rfl,e⟩
  .simp only[J8]at h;obtain⟨s1,g,i⟩:=h;obtain⟨a,b⟩:=c2y _ g (s:=⟨s.out,s.kn,_⟩) e;obtain⟨c,d⟩:=d35 f i b;exact⟨c.trans a,d⟩
theorem c0d(p:Pt):(JC p=0->(BD p).length=FW p)/\(∀m∈BD p,0<=m.t/\m.t<=255)/\(BD p).length<=FW p:=by
 unfold JC BD;cases h:NQ p with
 |none=>simp
 |some l=>
  have:=d35 _ h (λm a=>by have:m=AH.d:=(List.mem_replicate.1 a).2;rw[this];decide)
  simp only[FQ,List.length_replicate]at this;exact⟨λ_=>this.1,this.2,Nat.le_of_eq this.1⟩
def WR(r m:Mv):Int:=HF m.t m.x m.y r.t r.x r.y
def SJ(W H:Int)(m:Mv)(i:Nat):Int:=HO m.t m.x m.y (BZ W H i) (Bl W H i) (CB W H i)
def imC(W H:Int)(m:Mv)(i:Nat):Cl:=⟨keep (SJ W H m i) (LN m.t m.x m.y (BZ W H i) (Bl W H i)),keep (SJ W H m i) (MB m.t m.x m.y (BZ W H i) (Bl W H i)),keep (SJ W H m i) (KV m.t (CB W H i))⟩
def JQ(p:Pt)(r:Mv)(i:Nat):Int:=if WR r ((BD p).getD i AH.d)=0 then SJ p.W p.H (HC ((BD p).getD i AH.d) r) i else WR r ((BD p).getD i AH.d)
def CH(p:Pt)(r:Mv):Int:=if BE p=0 then(if DV r.t r.x r.y=0 then(if JC p=0 then MJ (JQ p r) (BD p).length 0 else JC p)else 1)else BE p
def BL(p:Pt)(r:Mv):List Mv:=if CH p r=0 then(BD p).map λm=>HC m r else []
def CF(p:Pt)(r:Mv):List Cl:=if CH p r=0 then(List.range (BD p).length).map λi=>imC p.W p.H (HC ((BD p).getD i AH.d) r) i else []
def KP(p:Pt)(r:Mv)(j:Nat):Mv:=HC ((BD p).getD j AH.d) r
def Wu(p:Pt)(r:Mv)(j:Nat):Cl:=imC p.W p.H (KP p r j) j
theorem Sy{p:Pt}{r:Mv}(h:CH p r=0):(BL p r).length=(BD p).length/\∀j,j<(BD p).length->(BL p r).getD j AH.d=KP p r j:=by unfold BL;rw[Iz h];refine⟨Dx,λj a=> ?_⟩;simp[a,KP]
theorem b0k{p:Pt}{r:Mv}(h:CH p r=0):(CF p r).length=(BD p).length/\∀j,j<(BD p).length->(CF p r).getD j DE.d=Wu p r j:=by unfold CF;rw[Iz h];refine⟨Dx,λj a=> ?_⟩;simp[a,Wu,KP]
theorem b2c{p:Pt}{r:Mv}(h:CH p r≠0):BL p r=[]/\CF p r=[]:=by unfold BL CF;rw[J3 h,J3 h];exact⟨rfl,rfl⟩
theorem HT(p:Pt):(⟨p.W,p.H,EF p.l.length (DZ p.l)⟩:Pt)=p:=by rw[CU]
def ID(r:Mv):SV:=.agg [.int .u8 r.t,.int .i64 r.x,.int .i64 r.y]
def VA:AM
 | [x,.agg [.int .u8 t,.int .i64 a,.int .i64 b]]=>match PP x with
   |some (q,p)=>some ((q/\∀c∈p.l,AE .u8 c.e)/\0<=t/\t<=255,.tup [.sl 3 (BL p ⟨t,a,b⟩).length (AH.row (BL p ⟨t,a,b⟩)) none,.sl 3 (CF p ⟨t,a,b⟩).length (DE.row (CF p ⟨t,a,b⟩)) none,.int .i64 (CH p ⟨t,a,b⟩)])
   |none=>none
 |_=>none
def FBoth:Fam:=⟨Pt×Mv,λ(p,r)=>[Eo p,ID r],λ(p,r)=>(p.l.length<=100000/\∀c∈p.l,AE .u8 c.e)/\0<=r.t/\r.t<=255,λ(p,r)=>.tup [.sl 3 (BL p r).length (AH.row (BL p r)) none,.sl 3 (CF p r).length (DE.row (CF p r)) none,.int .i64 (CH p r)]⟩
def IBoth:Pt×Mv->Nat->Option Inv
 |(p,r),11=>some {β:=Nat,ok:=λi=>i<=(BD p).length/\MJ (JQ p r) (BD p).length 0=MJ (JQ p r) ((BD p).length-i) i,st:=λi=>⟨[⟨36,none,.int .i64 i⟩,⟨35,none,.int .i64 (BD p).length⟩,⟨34,none,.osl 2⟩,⟨10,none,.osl 3⟩,⟨8,none,.osl 2⟩,⟨6,none,.int .i64 0⟩,⟨5,none,.con (.slice none 0 0)⟩,⟨4,none,.con (.slice none 0 0)⟩,⟨3,none,.own 1 0⟩,⟨2,none,.own 0 0⟩],[.cells 29 [.int .i64 p.W,.int .i64 p.H,.sl 3 p.l.length (DZ p.l) none],.cells 31 [.int .u8 r.t,.int .i64 r.x,.int .i64 r.y],.row 31 3 (BD p).length (λj=>AH.sv (upto (KP p r) (λj=>(BD p).getD j AH.d) i j)) none,.row 39 3 (BD p).length (λj=>DE.sv (upto (Wu p r) (λ_=>DE.d) i j)) none]⟩,μ:=λi=>(BD p).length-i}
 |_,_=>none
theorem f62:PS 82 VA:=by
 refine Np {l:=[(116,b66),(17,Qh),(118,Vn),(83,VP),(119,VR)],h:=[(117,hRel)]} ⟨by simpa using⟨d3i,UJ,b2b,f8k,b5d⟩,Dx,by simpa using pRel⟩ FBoth IBoth VA ?_ ?_ Tryz.func82 Dw Dw Dw ?_
 .intro args pre s h f;unfold VA at h;split at h
  .rename_i x t a b;split at h
   .rename_i q p hx;cases h;exact⟨(p,⟨t,a,b⟩),⟨(QX hx f.1.1).1,Gh,J5⟩,⟨⟨(QX hx f.1.1).2,f.1.2⟩,f.2⟩,rfl⟩
   .cases h
  .cases h
 .exact Bz
 .rintro⟨p,r⟩ f;replace f:(p.l.length<=100000/\∀c∈p.l,AE .u8 c.e)/\0<=r.t/\r.t<=255:=f;have C:BE p≠0->CH p r=BE p:=λh=>by unfold CH;rw[if_neg h]
  have E:BE p=0->DV r.t r.x r.y≠0->CH p r=1:=λh g=>by unfold CH;rw[if_pos h,if_neg g]
  have F:BE p=0->DV r.t r.x r.y=0->JC p≠0->CH p r=JC p:=λh g u=>by unfold CH;rw[if_pos h,if_pos g,if_neg u]
  have G:BE p=0->DV r.t r.x r.y=0->JC p=0->CH p r=MJ (JQ p r) (BD p).length 0:=λh g u=>by unfold CH;rw[if_pos h,if_pos g,if_pos u]
  have b5:CH p r≠0->(BL p r).length=0/\(CF p r).length=0:=λh=>by rw[(b2c h).1,(b2c h).2];exact⟨rfl,rfl⟩
  have v:=c0d p;refine X0 _ ?_;(repeat' first|constructor|intro h)<;>refine Lm ?_
  all_goals(try simp only[CU]at*)
  all_goals(first
   |exact⟨⟨FF _,f.1.1⟩,f.1.2⟩
   |exact f.2
   |(have o:BE p=0:=by simpa using ‹(!decide (BE p=0))=false›
     exact⟨⟨FF _,f.1.1⟩,f.1.2,o⟩)
   |(fail_if_success (with_reducible refine Exists.intro ?_ ?_)
     have h1:=b5;have N:=C;have O:=E;have P:=F;clear C E F G b5 v;simp only[Ib,Ig]at*;first
     |(have e:=N Dz;first|exact Bt)
     |(have e:=O Dz Dz;first|exact(h1 (by rw[e];decide)).1|exact(h1 (by rw[e];decide)).2|exact e.symm)
     |(have e:=P Dz Dz Dz;first|exact Bt))
   |skip)
  all_goals(
   have o:BE p=0:=K7 (by simpa using ‹(!decide (BE ⟨p.W,p.H,p.l⟩=0))=false›);have Q:DV r.t r.x r.y=0:=K7 (by simpa using ‹(!decide (DV r.t r.x r.y=0))=false›);have e2:JC p=0:=K7 (by simpa using ‹(!decide (JC ⟨p.W,p.H,p.l⟩=0))=false›);have hs:=(FO o).1;obtain⟨n1,n2,n3⟩:=b2v hs;have B:=v.1 e2;have I:=G o Q e2)
  .have:(BD ⟨p.W,p.H,p.l⟩).length=FW p:=B;refine⟨Dv,Dv,Qz Dw Dv Dv,Dv⟩
  refine⟨(0:Nat),⟨Je _,rfl⟩,?_,?_⟩
  .refine X0 _ ?_;(repeat' first|constructor|intro h)<;>refine Lm ?_
   all_goals(first
    |exact A6
    |(intro j k;show _=AH.sv (upto _ _ 0 j);rw[b6q];rfl)
    |(intro j k;show _=DE.sv (upto _ _ 0 j);rw[b6q];rfl)
    |skip)
  .intro i n;replace n:i<=(BD p).length/\MJ (JQ p r) (BD p).length 0=MJ (JQ p r) ((BD p).length-i) i:=n;have J:0<=((BD p).getD i AH.d).t/\((BD p).getD i AH.d).t<=255:=by
    rw[Ix];cases hg:(BD p)[i]? with
    |none=>decide
    |some m=>exact v.2.1 m (J6 hg)
   have K:=c6q (x:=((BD p).getD i AH.d).x) (y:=((BD p).getD i AH.d).y) (z:=r.x) (w:=r.y) J.1 f.2.1;have R:=TY p.W p.H i;have L:i<(BD p).length->JQ p r i≠0->CH p r=JQ p r i:=λh g=>by rw[I,n.2,show (BD p).length-i=((BD p).length-(i+1))+1 from Dv];simp only[MJ];rw[J3 g]
   have S:i<(BD p).length->JQ p r i=0->MJ (JQ p r) (BD p).length 0=MJ (JQ p r) ((BD p).length-(i+1)) (i+1):=λh g=>by rw[n.2,show (BD p).length-i=((BD p).length-(i+1))+1 from Dv];simp only[MJ];rw[Iz g]
   have T:¬i<(BD p).length->CH p r=0:=λh=>by rw[I,n.2,show (BD p).length-i=0 from Dv];rfl
   have U:WR r ((BD p).getD i AH.d)≠0->JQ p r i=WR r ((BD p).getD i AH.d):=λh=>by unfold JQ;rw[if_neg h]
   have M:WR r ((BD p).getD i AH.d)=0->JQ p r i=SJ p.W p.H (KP p r i) i:=λh=>by unfold JQ;rw[if_pos h];rfl
   refine X0 _ ?_;(repeat' first|constructor|intro h)<;>refine Lm ?_
   all_goals(try simp only[Ia,c0y _ _ (J9 i),decide_true,Mz,Ib]at*)
   all_goals(try(replace b6:i<(BD p).length:=Dv))
   all_goals(first
    |omega
    |exact⟨J,f.2⟩
    |exact⟨K.1,K.2,R.1⟩
    |exact A7
    |(show i<(BD p).length;omega)
    |(have e:=U Dz
      have e2:=L Dv (by rw[e];assumption);first
      |exact Bk)
    |(have e:=M Dz
      have e2:=L Dv (by rw[e];assumption);first
      |exact Bk)
    |(have e:=M Dz
      refine⟨i+1,⟨Dv,S Dv (by rw[e];assumption)⟩,Dv,?_⟩)
    |(have e:=T Dv
      first
      |exact e.symm
      |exact(Sy e).1.symm
      |exact(b0k e).1.symm
      |(intro j k;show AH.sv _=AH.sv _;rw[b8u _ _ Dv,(Sy e).2 j Dv])
      |(intro j k;show DE.sv _=DE.sv _;rw[b8u _ _ Dv,(b0k e).2 j Dv]))
    |skip)
   all_goals refine X0 _ ?_;(repeat' first|constructor|intro h)<;>refine Lm ?_
   all_goals(try simp only[]at*)
   all_goals(first
    |exact Ar
    |(intro j k;exact b6e AH (λ_ _=>rfl) (λ_ _=>rfl) (KP p r) _ i j)
    |(intro j k;exact b6e DE (λ_ _=>rfl) (λ_ _=>rfl) (Wu p r) _ i j)
    |skip)
def AL(W H i:Int):Cl:=⟨BZ W H i,Bl W H i,CB W H i⟩
theorem GW{W H:Int}(h:AV W H=0):1<=W/\1<=H/\W<=256/\H<=256/\W*H<=256:=by
 unfold AV at h;split at h
 .assumption
 .cases h
theorem ce_ok{W H i:Int}(hs:AV W H=0)(a:0<=i)(h:i<4*W*H):KW W H i=0:=by simp[KW,hs,Se,a,h]
theorem HV{W H i:Int}(hs:AV W H=0)(a:0<=i)(h:i<4*W*H):AL W H i=⟨i/4%W,i/4/W,i%4⟩:=by have e:=ce_ok hs a h;simp[AL,BZ,Bl,CB,e]
theorem IA{W H i:Int}(hs:AV W H=0)(a:0<=i)(h:i<4*W*H):
 (0<=(AL W H i).x/\(AL W H i).x<W)/\(0<=(AL W H i).y/\(AL W H i).y<H)/\(0<=(AL W H i).q/\(AL W H i).q<=3)/\i=4*((AL W H i).y*W+(AL W H i).x)+(AL W H i).q:=by
 have hw:=GW hs;rw[HV hs a h];simp only;have a1:=Ln (i/4) (show W≠0 from Dv);have a2:=Lg (i/4) (show 0<W from Dv);have a3:0<=i/4/W:=Int.ediv_nonneg Dv Dv;have a4:i/4/W<H:=by
  apply Int.ediv_lt_of_lt_mul Dv;have:4*W*H=4*(H*W):=by rw[Li,Int.mul_comm W H]
  omega
 have a5:=Mf (i/4) W;have a6:i/4/W*W=W*(i/4/W):=Int.mul_comm _ _;omega
theorem g0e{W H x y q:Int}(hs:AV W H=0)(hx:0<=x/\x<W)(c:0<=y/\y<H)(hq:0<=q/\q<=3):0<=4*(y*W+x)+q/\4*(y*W+x)+q<4*W*H/\AL W H (4*(y*W+x)+q)=⟨x,y,q⟩:=by
 have hw:=GW hs;have b0:0<=y*W:=Int.mul_nonneg c.1 Dv;have b1:y*W+x<W*H:=by have:(y+1)*W<=H*W:=Int.mul_le_mul_of_nonneg_right Dv Dv;rw[Int.add_mul,Int.one_mul,Int.mul_comm H W]at this;omega
 have b2:4*W*H=4*(W*H):=Li _ _ _;have a:0<=4*(y*W+x)+q:=Dv;have b:4*(y*W+x)+q<4*W*H:=Dv;refine⟨a,b,?_⟩;rw[HV hs a b];have d:(4*(y*W+x)+q)/4=y*W+x:=Dv;rw[d];refine Cl.ext' ?_ ?_ ?_
 .show (y*W+x)%W=x;rw[Int.add_comm,Int.add_mul_emod_self_right];exact Int.emod_eq_of_lt hx.1 hx.2
 .show (y*W+x)/W=y;rw[Int.add_comm,Int.add_mul_ediv_right _ _ Dv,Int.ediv_eq_zero_of_lt hx.1 hx.2];omega
 .show (4*(y*W+x)+q)%4=q;omega
theorem MM{c:Cl}{e:Int}(a:0<=c.q/\c.q<=3)(b:0<=e/\e<3):(c.x-1<=(AQ c e).x/\(AQ c e).x<=c.x+1)/\(c.y-1<=(AQ c e).y/\(AQ c e).y<=c.y+1)/\(0<=(AQ c e).q/\(AQ c e).q<=3):=by obtain⟨X,Y,Q⟩:=c;simp only at a;rcases ET a with rfl|rfl|rfl|rfl<;>rcases GI b with rfl|rfl|rfl<;>(simp[AQ,EK,EL,EN,tb];try omega)
theorem RC{c:Cl}{e:Int}(a:0<=c.q/\c.q<=3)(b:0<=e/\e<3):AQ (AQ c e) e=c:=by obtain⟨X,Y,Q⟩:=c;simp only at a;rcases ET a with rfl|rfl|rfl|rfl<;>rcases GI b with rfl|rfl|rfl<;>(simp[AQ,EK,EL,EN,tb];try omega)
theorem f5h{W H i e:Int}(hs:AV W H=0)(a:0<=i)(h:i<4*W*H)(b:0<=e/\e<3):GJ (AL W H i).x (AL W H i).y (AL W H i).q e=0:=by have hw:=GW hs;have c:=IA hs a h;have d:=MM c.2.2.1 b;simp only[AQ]at d;unfold GJ;rw[Iz ⟨Gi,Dv⟩,Iz];unfold EY;rw[Iz];omega
theorem WC{W H i e:Int}(hs:AV W H=0)(b:0<=i)(h:i<4*W*H)(d:0<=e/\e<3):
 (AX W H i e=0↔(0<=(AQ (AL W H i) e).x/\(AQ (AL W H i) e).x<W)/\0<=(AQ (AL W H i) e).y/\(AQ (AL W H i) e).y<H)/\
 (AX W H i e=0->AG W H i e=4*((AQ (AL W H i) e).y*W+(AQ (AL W H i) e).x)+(AQ (AL W H i) e).q):=by
 have hw:=GW hs;have l:=IA hs b h;have hb:=MM l.2.2.1 d;have f:=ce_ok hs b h;have m:=f5h hs b h d;have a:GJ (BZ W H i) (Bl W H i) (CB W H i) e=0:=m;have g:JM (BZ W H i) (Bl W H i) (CB W H i) e=(AQ (AL W H i) e).x:=by simp[JM,a,AQ,AL]
 have j:JO (BZ W H i) (Bl W H i) (CB W H i) e=(AQ (AL W H i) e).y:=by simp[JO,a,AQ,AL]
 have k:IK (BZ W H i) (Bl W H i) (CB W H i) e=(AQ (AL W H i) e).q:=by simp[IK,a,AQ,AL]
 have n:AX W H i e=Ll W H (AQ (AL W H i) e).x (AQ (AL W H i) e).y (AQ (AL W H i) e).q:=by simp[AX,f,a,g,j,k]
 have o:AG W H i e=QY W H (AQ (AL W H i) e).x (AQ (AL W H i) e).y (AQ (AL W H i) e).q:=by simp[AG,f,a,g,j,k]
 rw[n,o];have r:EY (AQ (AL W H i) e).x (AQ (AL W H i) e).y (AQ (AL W H i) e).q=0:=Gi;refine⟨?_,λh=>by simp[QY,h]⟩;unfold Ll;rw[Iz hs];constructor
 .intro h;split at h
  .rename_i c;exact⟨⟨c.2.1,c.2.2.1⟩,c.2.2.2⟩
  .cases h
 .intro h;rw[Iz ⟨r,h.1.1,h.1.2,h.2⟩]
theorem FL{W H i e:Int}(hs:AV W H=0)(b:0<=i)(h:i<4*W*H)(c:0<=e/\e<3)(d:AX W H i e=0):
 (0<=AG W H i e/\AG W H i e<4*W*H)/\AL W H (AG W H i e)=AQ (AL W H i) e:=by
 have j:=IA hs b h;have k:=MM j.2.2.1 c;have f:=WC hs b h c;have g:=f.1.1 d;have a:=g0e hs g.1 g.2 k.2.2;rw[f.2 d];exact⟨⟨a.1,a.2.1⟩,a.2.2⟩
theorem Qx{W H i e:Int}(hs:AV W H=0)(d:0<=i)(h:i<4*W*H)(b:0<=e/\e<3)(g:AX W H i e=0):
 AX W H (AG W H i e) e=0/\AG W H (AG W H i e) e=i:=by
 have a:=IA hs d h;obtain⟨⟨j,k⟩,l⟩:=FL hs d h b g;have c:=WC hs j k b;rw[l,RC a.2.2.1 b]at c;have f:AX W H (AG W H i e) e=0:=c.1.2 ⟨a.1,a.2.1⟩;exact⟨f,by rw[c.2 f];exact a.2.2.2.symm⟩
theorem c25{W H i e:Int}(hs:AV W H=0)(b:0<=i)(h:i<4*W*H)(c:0<=e/\e<3)(a:AX W H i e=0):DG W H (AG W H i e) e=DG W H i e:=by obtain⟨d,f⟩:=Qx hs b h c a;simp[DG,EI,FC,a,d,f,Int.min_comm]
theorem d46{c:Cl}{e:Int}(a:0<=c.q/\c.q<=3)(b:0<=e/\e<3):DB (AQ c e).q e=DB c.q e/\DF (AQ c e).x (AQ c e).y (AQ c e).q e=DF c.x c.y c.q e:=by obtain⟨X,Y,Q⟩:=c;simp only at a;rcases ET a with rfl|rfl|rfl|rfl<;>rcases GI b with rfl|rfl|rfl<;>(simp[AQ,EK,EL,EN,tb,DB,DF,IJ,JY];try omega)
theorem sl_eq{W H i e:Int}(hs:AV W H=0)(b:0<=i)(h:i<4*W*H)(f:0<=e/\e<3)(g:AX W H i e=0)(j:EI W H i e=i):
 UF W H i e=DB (AL W H i).q e/\Un W H i e=DF (AL W H i).x (AL W H i).y (AL W H i).q e:=by
 have hw:=GW hs;have a:=IA hs b h;have c:Pv W H i e=0:=by simp[Pv,hs,g,j,FC]
 have d:=HV hs b h;have k:Ty W H i e=0:=by simp only[Ty,c,Ke,NR];rw[d]at a;simp only at a;unfold RN;rw[Iz ⟨Gi,Dv⟩,Iz];unfold FY;rw[Iz];have l:=ET a.2.2.1;rcases l with q|q|q|q<;>rcases GI f with rfl|rfl|rfl<;>(rw[q];simp[DB,DF,IJ,JY,tb];omega)
 rw[d];simp[UF,Un,c,k,keep]
theorem b2m{W H i e:Int}{has:List Int->Bool}{m:Mv}(hs:AV W H=0)(d:0<=i)(h:i<4*W*H)(b:0<=e/\e<3)(a:AX W H i e=0):
 IR W H has m i e=bif has (DG W H i e)then HC (EW (DB (AL W H i).q e) (DF (AL W H i).x (AL W H i).y (AL W H i).q e)) m else m:=by
 have k:=IA hs d h;obtain⟨⟨l,n⟩,o⟩:=FL hs d h b a;obtain⟨g,p⟩:=Qx hs d h b a;have j:=d46 k.2.2.1 b;have r:FC W H i e=e:=by simp[FC,a]
 have c:UF W H (EI W H i e) e=DB (AL W H i).q e/\Un W H (EI W H i e) e=DF (AL W H i).x (AL W H i).y (AL W H i).q e:=by
  by_cases hl:i<=AG W H i e
  .have f:EI W H i e=i:=by simp only[EI,a,Ke];omega
   rw[f];exact sl_eq hs d h b a f
  .have f:EI W H i e=AG W H i e:=by simp only[EI,a,Ke];omega
   have s:EI W H (AG W H i e) e=AG W H i e:=by simp only[EI,g,Ke,p];omega
   rw[f];have:=sl_eq hs l n b g s;rw[o]at this;rw[this.1,this.2,j.1,j.2];exact⟨rfl,rfl⟩
 unfold IR;rw[r,c.1,c.2]
def GX(m:Mv)(c:Cl)(K:Int):Prop:=(-K<=(Dl m c).x/\(Dl m c).x<=K)/\ -K<=(Dl m c).y/\(Dl m c).y<=K
theorem f90{W H:Int}{c:Cl}(hs:AV W H=0)(hx:0<=c.x/\c.x<W)(hy:0<=c.y/\c.y<H)(hq:0<=c.q/\c.q<=3):vC c:=by have:=GW hs;unfold vC;omega
theorem f3g{t a b:Int}(ha: -700<=a/\a<=700)(hb: -700<=b/\b<=700):(-700<=(AR t a b).1/\(AR t a b).1<=700)/\ -700<=(AR t a b).2/\(AR t a b).2<=700:=by
 unfold AR;repeat' split
 all_goals(simp only;omega)
theorem d29{t a b:Int}(h:(a+b)%2=0):((AR t a b).1+(AR t a b).2)%2=0:=by
 unfold AR;repeat' split
 all_goals(simp only;omega)
theorem c7d{m:Mv}{c:Cl}{K:Int}(b:vM m)(hc:(0<=c.x/\c.x<=300)/\(0<=c.y/\c.y<=300)/\0<=c.q/\c.q<=3)(a:GX m c K)(hK:0<=K/\K<=2000):(-2400<=m.x/\m.x<=2400)/\ -2400<=m.y/\m.y<=2400:=by unfold GX at a;rw[JG b Dv]at a;simp only at a;rcases FX b with e|e|e|e|e|e|e|e<;>simp only[sq,e]at a<;>simp at a<;>omega
theorem c2u{m:Mv}{c:Cl}{e K:Int}(i:0<=e/\e<3)(j:(0<=c.x/\c.x<=300)/\(0<=c.y/\c.y<=300)/\0<=c.q/\c.q<=3)(a:vM m)(v:GX m c K)(w:0<=K/\K<=2000):
 vM (HC (EW (DB c.q e) (DF c.x c.y c.q e)) m)/\Dl (HC (EW (DB c.q e) (DF c.x c.y c.q e)) m) (AQ c e)=Dl m c/\Dl (HC (EW (DB c.q e) (DF c.x c.y c.q e)) m) c=Dl m (AQ c e):=by
 obtain⟨f,k,l,n⟩:=@b8g c e i Dv;generalize EW (DB c.q e) (DF c.x c.y c.q e)=r at*;have hb:=MM j.2.2 i;have pb:=c7d a j v w;have o:=@b49 m.t r.x r.y (FX a);have Yx:=@f3g m.t r.x r.y n.1 n.2;have hlp:=@d29 m.t r.x r.y (Nz f).2.2;have c7:=(Nz a).2.2;have g:HF r.t r.x r.y m.t m.x m.y=0:=by unfold HF;rw[Iz ⟨f.2,a.2⟩,o.1,o.2];unfold MP;rw[Iz];unfold DV;rw[Iz];refine⟨?_,Dv,Dv,Dv,Dv,Dv⟩;rw[f7e (FX f) (FX a)];rcases FX f with b|b|b|b|b|b|b|b<;>rcases FX a with d|d|d|d|d|d|d|d<;>rw[b,d]<;>decide
 have s:vC c:=Fx;have u:vC (AQ c e):=Fx;refine⟨(Vv f.1 a.1 g).2.2.2,?_,?_⟩
 .rw[b9n f.1 a.1 g u (by rw[l];exact s),l]
 .rw[b9n f.1 a.1 g s (by rw[k];exact u),k]
theorem c7m{m:Mv}{c:Cl}{e K:Int}(d:0<=e/\e<3)(f:(0<=c.x/\c.x<=300)/\(0<=c.y/\c.y<=300)/\0<=c.q/\c.q<=3)(b:vM m)(a:GX m c K):GX m (AQ c e) (K+1):=by have hb:=MM f.2.2 d;unfold GX at*;rw[JG b Dv]at a⊢;simp only at a⊢;rcases FX b with e|e|e|e|e|e|e|e<;>simp only[sq,e]at a⊢ <;>simp at a⊢ <;>omega
theorem NX{α:Type}{T:List α}{i j:Nat}{x d:α}(h:i<T.length):(T.set i x).getD j d=if j=i then x else T.getD j d:=by
 by_cases e:j=i
 .subst e;simp[h]
 .simp[Jh (Ne.symm e),e]
theorem YV:∀l:List Bool,l.count true+l.count false=l.length
 | []=>rfl
 |a::r=>by have:=YV r;cases a<;>simp<;>omega
section
variable{W H:Int}{has:List Int->Bool}
def AJ(W H:Int):Nat:=(4*W*H).toNat
theorem CR(hs:AV W H=0):(AJ W H:Int)=4*W*H/\AJ W H<=1024/\4<=AJ W H:=by have h:=GW hs;have e:4*W*H=4*(W*H):=Li _ _ _;have:0<W*H:=Int.mul_pos Dv Dv;unfold AJ;omega
def Tm(W H:Int)(has:List Int->Bool)(s:BS)(i e:Int):Prop:=
 AX W H i e=0->s.kn.getD (AG W H i e).toNat false=true/\s.out.getD (AG W H i e).toNat AH.d=IR W H has (s.out.getD i.toNat AH.d) i e
structure More (s s':BS):Prop where
 kn:∀j:Nat,s.kn.getD j false=true->s'.kn.getD j false=true/\s'.out.getD j AH.d=s.out.getD j AH.d
 wt:∀i∈s.wt,i∈s'.wt
 new:∀j:Nat,s'.kn.getD j false=true->s.kn.getD j false=true\/(j:Int)∈s'.wt
theorem More.refl(s:BS):More s s:=⟨λ_ h=>⟨h,rfl⟩,λ_ h=>h,λ_ h=>.inl h⟩
theorem More.trans{a b c:BS}(h:More a b)(k:More b c):More a c:=
 ⟨λj d=>⟨(k.kn j (h.kn j d).1).1,(k.kn j (h.kn j d).1).2.trans (h.kn j d).2⟩,λi g=>k.wt i (h.wt i g),λj d=>by
   rcases k.new j d with e|e
   .rcases h.new j e with f|f
    .exact .inl f
    .exact .inr (k.wt _ f)
   .exact .inr e⟩
theorem Tm.more{s c:BS}{i e:Int}(_:0<=i)(d:s.kn.getD i.toNat false=true)(h:Tm W H has s i e)(m:More s c):Tm W H has c i e:=by intro f;obtain⟨g,j⟩:=h f;have a:=m.kn _ g;have b:=m.kn _ d;exact⟨a.1,by rw[a.2,b.2,j]⟩
structure BI (W H:Int) (s:BS):Prop where
 ol:s.out.length=AJ W H
 kl:s.kn.length=AJ W H
 wt:∀i∈s.wt,(0<=i/\i<4*W*H)/\s.kn.getD i.toNat false=true
 kn:∀j:Nat,s.kn.getD j false=true->vM (s.out.getD j AH.d)/\GX (s.out.getD j AH.d) (AL W H j) (s.kn.count true)
theorem BI.lt{s:BS}(h:BI W H s){j:Nat}(a:s.kn.getD j false=true):j<AJ W H:=by rw[<-h.kl];apply Classical.byContradiction;intro hc;rw[Ix,L9 Dv]at a;cases a
theorem b9z{m:Mv}{c:Cl}{K L:Int}(h:GX m c K)(hl:K<=L):GX m c L:=by unfold GX at*;omega
theorem OW{i:Int}(hs:AV W H=0)(a:0<=i)(h:i<4*W*H):(0<=(AL W H i).x/\(AL W H i).x<=300)/\(0<=(AL W H i).y/\(AL W H i).y<=300)/\0<=(AL W H i).q/\(AL W H i).q<=3:=by have:=IA hs a h;have:=GW hs;omega
theorem b84{s f:BS}{i e:Int}(hs:AV W H=0)(h:BI W H s)(r:0<=i)(hi:i<4*W*H)(t:s.kn.getD i.toNat false=true)(g:0<=e/\e<3)(b:LK W H has s i e=some f):
 BI W H f/\More s f/\Tm W H has f i e:=by
 unfold LK at b;split at b;rotate_left
 .rename_i k;cases b;exact⟨h,.refl _,λe=>absurd e k⟩
 rename_i k;obtain⟨⟨z,A⟩,B⟩:=FL hs r hi g k;have hN:=CR hs;have j7:(AG W H i e).toNat<AJ W H:=Dv;have w:=OW hs r hi;simp only at b;by_cases u:s.kn.getD (AG W H i e).toNat false=true
 .rw[u]at b;simp only[Mz]at b;split at b
  .rename_i C;cases b;exact⟨h,.refl _,λ_=>⟨u,C⟩⟩
  .cases b
 .have o:s.kn.getD (AG W H i e).toNat false=false:=by simpa using u
  rw[o]at b;simp only[cond_false]at b;rw[Iz (by rw[NX Fy,Iz rfl])]at b;cases b;have E:i.toNat≠(AG W H i e).toNat:=λv=>by rw[v,o]at t;cases t
  have F:(s.kn.set (AG W H i e).toNat true).count true=s.kn.count true+1:=by have c1:=b2t (l:=s.kn) (n:=(AG W H i e).toNat) F6 o;have c2:=YV s.kn;have G:=YV (s.kn.set (AG W H i e).toNat true);rw[Kj]at G;omega
  have hcN:s.kn.count true<=1024:=by have:=YV s.kn;have:=h.kl;omega
  obtain⟨vm,q⟩:=h.kn _ t;rw[show ((i.toNat:Nat):Int)=i from Dv]at q;have x:=b2m (has:=has) (m:=s.out.getD i.toNat AH.d) hs r hi g k;have y:vM (IR W H has (s.out.getD i.toNat AH.d) i e)/\GX (IR W H has (s.out.getD i.toNat AH.d) i e) (AL W H (AG W H i e)) (s.kn.count true+1):=by
   rw[B];cases hc:has (DG W H i e)with
   |false=>
    rw[x,hc];exact⟨vm,c7m g w vm q⟩
   |true=>
    rw[x,hc];simp only[Mz];obtain⟨g1,I,_⟩:=c2u g w vm q Dv;refine⟨g1,?_⟩;unfold GX at q⊢;rw[I];omega
  refine⟨⟨by simpa using h.ol,by simpa using h.kl,λj a=> ?_,λj a=> ?_⟩,⟨λj a=> ?_,λj a=>N7 _ a,λj a=> ?_⟩,λ_=>⟨?_,?_⟩⟩
  .rcases Jy.1 a with a|a
   .refine⟨(h.wt j a).1,?_⟩;rw[NX F6];split
    .rfl
    .exact(h.wt j a).2
   .rw[Js.1 a];refine⟨⟨z,A⟩,?_⟩;rw[NX F6,Iz rfl]
  .rw[NX F6]at a;rw[NX Fy,F];by_cases c:j=(AG W H i e).toNat
   .rw[Iz c,show (j:Int)=AG W H i e from Dv];exact⟨y.1,b9z y.2 Dv⟩
   .rw[J3 c]at a⊢;exact⟨(h.kn j a).1,b9z (h.kn j a).2 Dv⟩
  .have c:j≠(AG W H i e).toNat:=λv=>by rw[v,o]at a;cases a
   rw[NX F6,J3 c,NX Fy,J3 c];exact⟨a,rfl⟩
  .rw[NX F6]at a;by_cases c:j=(AG W H i e).toNat
   .exact .inr (List.mem_append_right _ (Js.2 Dv))
   .rw[J3 c]at a;exact .inl a
  .rw[NX F6,Iz rfl]
  .rw[NX Fy,Iz rfl,NX Fy,J3 E]
theorem b3c{i:Int}(hs:AV W H=0)(c:0<=i)(hi:i<4*W*H):∀(l:List Int) {s a:BS},(∀e∈l,0<=e/\e<3)->BI W H s->s.kn.getD i.toNat false=true->MZ W H has i l s=some a->
 BI W H a/\More s a/\∀e∈l,Tm W H has a i e
 | [],s,a,_,h,_,b=>by cases b;exact⟨h,.refl _,λ_ d=>by cases d⟩
 |e::l,s,a,k,h,f,b=>by
  simp only[MZ,J8]at b;obtain⟨s1,n,o⟩:=b;obtain⟨q,g,r⟩:=b84 hs h c hi f (k e Dx) n;obtain⟨t,m,u⟩:=b3c hs c hi l (λe d=>k e (by simp[d])) q (g.kn _ f).1 o;refine⟨t,g.trans m,λv j=> ?_⟩;rcases Jd.1 j with rfl|j
  .exact r.more c (g.kn _ f).1 m
  .exact u v j
def Vo(W H:Int)(has:List Int->Bool)(s:BS):Prop:=∀j:Nat,s.kn.getD j false=true->(j:Int)∈s.wt\/∀e,0<=e/\e<3->Tm W H has s j e
theorem c0z(hs:AV W H=0):∀(f:Nat) {s:BS} {l:List Mv},BI W H s->Vo W H has s->IV W H has f s=some l->∃b,b.out=l/\BI W H b/\b.wt=[]/\Vo W H has b/\∀j:Nat,s.kn.getD j false=true->b.kn.getD j false=true/\b.out.getD j AH.d=s.out.getD j AH.d
 |0,s,l,h,m,a=>by
  unfold IV at a;split at a
  .rename_i e;cases a;exact⟨s,rfl,h,e,m,λ_ h=>⟨h,rfl⟩⟩
  .cases a
 |f+1,s,l,h,m,a=>by
  cases hw:s.wt with
  |nil=>
   rw[c0q hw]at a;cases a;exact⟨s,rfl,h,hw,m,λ_ h=>⟨h,rfl⟩⟩
  |cons i r=>
   rw[b93 hw]at a;simp only[J8]at a;obtain⟨w,x,y⟩:=a;have n:=h.wt i (by rw[hw];simp);have z:BI W H ⟨s.out,s.kn,r⟩:=⟨h.ol,h.kl,λj g=>h.wt j (by rw[hw];exact Jz _ g),h.kn⟩
   obtain⟨A,k,o⟩:=b3c hs n.1.1 n.1.2 [0,1,2] Dx z n.2 x;have q:Vo W H has w:=by
    intro j g;by_cases u:(j:Int)=i
    .right;rw[u];intro e t;rcases GI t with rfl|rfl|rfl
     .exact o 0 Dx
     .exact o 1 Dx
     .exact o 2 Dx
    .rcases k.new j g with bm|bm
     .rcases m j bm with c|c
      .rw[hw]at c;rcases Jd.1 c with c|c
       .exact absurd c u
       .exact .inl (k.wt _ c)
      .right;intro e t;have:=c e t;exact Tm.more (s:=⟨s.out,s.kn,r⟩) Dv Ft this k
     .exact .inl bm
   obtain⟨b,B,C,E,F,v⟩:=c0z hs f A q y;exact⟨b,B,C,E,F,λj g=>⟨(v j (k.kn j g).1).1,(v j (k.kn j g).1).2.trans (k.kn j g).2⟩⟩
theorem b3d{kn:Nat->Bool}(hs:AV W H=0)(step:∀(i:Nat) (e:Int),0<=e/\e<3->kn i=true->AX W H i e=0->kn (AG W H i e).toNat=true)(z:kn 0=true):∀j:Nat,j<AJ W H->kn j=true:=by
 have hN:=CR hs;have PZ:∀(j:Nat) (e:Int),j<AJ W H->0<=e/\e<3->AX W H j e=0->kn (AG W H j e).toNat=true->kn j=true:=by intro j e A l a n;obtain⟨⟨n0,n1⟩,_⟩:=FL hs (i:=j) Dv Dv l a;obtain⟨B,C⟩:=Qx hs (i:=j) Dv Dv l a;have:=step (AG W H j e).toNat e l n (by rw[show (((AG W H j e).toNat:Nat):Int)=AG W H j e from Dv];exact B);rw[show (((AG W H j e).toNat:Nat):Int)=AG W H j e from Dv,C]at this;simpa using this
 have o:∀m:Nat,4*m<AJ W H->∀q:Nat,q<4->kn (4*m+q)=true:=by
  intro m;induction m using Nat.strongRecOn with
  |ind m x=>
   intro hm;have hw2:=GW hs;have d:∀q:Nat,q<4->(4*m+q:Nat)<AJ W H:=λq f=>by
    have:4∣AJ W H:=by unfold AJ;rw[Li];have:0<W*H:=Int.mul_pos Dv Dv;exact⟨(W*H).toNat,Dv⟩
    obtain⟨k,n⟩:=this;omega
   have g:∀q:Nat,q<4->AL W H ((4*m+q:Nat):Int)=⟨(m:Int)%W,(m:Int)/W,q⟩:=λq f=>by have:=d q f;rw[HV hs Dv Dv];have c:((4*m+q:Nat):Int)/4=m:=Dv;have t:((4*m+q:Nat):Int)%4=q:=Dv;rw[c,t]
   have a1:=Ln (m:Int) (show W≠0 from Dv);have a2:=Lg (m:Int) (show 0<W from Dv);have a3:0<=(m:Int)/W:=Int.ediv_nonneg Dv Dv;have E:=Mf (m:Int) W;have a6:(m:Int)/W*W=W*((m:Int)/W):=Int.mul_comm _ _;have y:=IA hs (i:=((4*m:Nat):Int)) Dv Dv;have u:=g 0 Dv;rw[Lu]at u;rw[u]at y;simp only at y;have one:∃q:Nat,q<4/\kn (4*m+q)=true:=by
    by_cases F:m=0
    .subst F;exact⟨0,Dv,z⟩
    by_cases hx:0<(m:Int)%W
    .refine⟨3,Dv,?_⟩;have b:AX W H ((4*m+3:Nat):Int) 0=0/\(AG W H ((4*m+3:Nat):Int) 0).toNat=4*(m-1)+1:=by
      have a:=WC hs (i:=((4*m+3:Nat):Int)) (e:=0) Dv (by have:=d 3 Dv;omega) Dv;rw[g 3 Dv]at a;generalize AG W H ((4*m+3:Nat):Int) 0=v at*;generalize AX W H ((4*m+3:Nat):Int) 0=G at*;simp[AQ,EK,EL,EN,tb]at a;have c:=a.1.2 Dv;exact⟨c,by rw[a.2 c];omega⟩
     refine PZ (4*m+3) 0 (d 3 Dv) Dv b.1 ?_;rw[b.2];exact x (m-1) Dv Dv 1 Dv
    .refine⟨0,Dv,?_⟩;have hy:0<(m:Int)/W:=by
      rcases Int.lt_or_le 0 ((m:Int)/W)with h|h
      .exact h
      .have:(m:Int)/W=0:=Dv;rw[this]at E;omega
     have hWm:W<=m:=by have:W*1<=W*((m:Int)/W):=Int.mul_le_mul_of_nonneg_left Dv Dv;omega
     have t:(-1+(m:Int)/W)*W=(m:Int)/W*W-W:=by rw[Int.add_mul];omega
     have b:AX W H ((4*m:Nat):Int) 0=0/\(AG W H ((4*m:Nat):Int) 0).toNat=4*(m-W.toNat)+2:=by have a:=WC hs (i:=((4*m:Nat):Int)) (e:=0) Dv Dv Dv;rw[u]at a;generalize AG W H ((4*m:Nat):Int) 0=v at*;generalize AX W H ((4*m:Nat):Int) 0=G at*;simp[AQ,EK,EL,EN,tb]at a;have c:=a.1.2 Dv;exact⟨c,by rw[a.2 c,t];omega⟩
     refine PZ (4*m) 0 Dv Dv b.1 ?_;rw[b.2];exact x (m-W.toNat) Dv Dv 2 Dv
   have w:∀q:Nat,q<4->kn (4*m+q)=true->kn (4*m+(q+1)%4)=true:=by
    intro q f n;have r:∀e:Int,0<=e/\e<3->(AQ ⟨(m:Int)%W,(m:Int)/W,q⟩ e=⟨(m:Int)%W,(m:Int)/W,((q+1)%4:Nat)⟩)->kn (4*m+(q+1)%4)=true:=by intro e l I;have a:=WC hs (i:=((4*m+q:Nat):Int)) (e:=e) Dv (by have:=d q f;omega) l;rw[g q f,I]at a;simp only at a;have c:AX W H ((4*m+q:Nat):Int) e=0:=a.1.2 Dv;have:=step (4*m+q) e l n c;rw[a.2 c]at this;rwa[show (4*((m:Int)/W*W+(m:Int)%W)+(((q+1)%4:Nat):Int)).toNat=4*m+(q+1)%4 from Dv]at this
    rcases(show q=0\/q=1\/q=2\/q=3 from Dv)with rfl|rfl|rfl|rfl
    .exact r 1 Dv Gj
    .exact r 2 Dv Gj
    .exact r 1 Dv Gj
    .exact r 2 Dv Gj
   obtain⟨q,f,n⟩:=one;have k1:=w q f n;have k2:=w _ Dv k1;have k3:=w _ Dv k2;intro s de;rcases(show s=q\/s=(q+1)%4\/s=((q+1)%4+1)%4\/s=(((q+1)%4+1)%4+1)%4 from Dv)with e|e|e|e<;>(rw[e];assumption)
 intro j A;have:=o (j/4) Dv (j%4) Dv;rwa[show 4*(j/4)+j%4=j from Dv]at this
theorem d1s{s:BS}(hs:AV W H=0)(_:BI W H s)(b:s.wt=[])(c:Vo W H has s)(d:s.kn.getD 0 false=true):∀j:Nat,j<AJ W H->s.kn.getD j false=true:=by
 refine b3d (kn:=λj=>s.kn.getD j false) hs (λi e f g k=> ?_) d;rcases c i g with a|a
 .rw[b]at a;cases a
 .exact(a e f k).1
end
theorem b5f{p:Pt}(hs:AV p.W p.H=0)(h:JC p=0):(BD p).length=AJ p.W p.H/\∀i:Nat,i<AJ p.W p.H->
 (vM ((BD p).getD i AH.d)/\GX ((BD p).getD i AH.d) (AL p.W p.H i) 1024)/\∀e:Int,0<=e/\e<3->AX p.W p.H i e=0->(BD p).getD (AG p.W p.H i e).toNat AH.d=IR p.W p.H (EE p.l) ((BD p).getD i AH.d) i e:=by
 have hN:=CR hs;have r:FW p=AJ p.W p.H:=rfl;unfold JC at h;cases hr:NQ p with
 |none=>rw[hr]at h;cases h
 |some l=>
  have s:BD p=l:=by simp[BD,hr]
  rw[s];unfold NQ at hr;rw[r]at hr;have t:BI p.W p.H (FQ (AJ p.W p.H)):=by
   refine⟨Fk,Fk,λi b=> ?_,λj k=> ?_⟩
   .have:i=0:=by simpa[FQ]using b
    subst this;refine⟨Dv,?_⟩;show ((List.replicate _ false).set 0 true).getD 0 false=true;rw[OJ _ _ Dv];rfl
   .have c:((List.replicate (AJ p.W p.H) false).set 0 true).getD j false=true:=k;rw[OJ _ _ Dv]at c;have:j=0:=K7 c;subst this;have ws:1<=(FQ (AJ p.W p.H)).kn.count true:=by
     have:true∈(FQ (AJ p.W p.H)).kn:=by show true∈(List.replicate (AJ p.W p.H) false).set 0 true;exact List.mem_set E5 _
     exact List.count_pos_iff.2 this
    show vM ((List.replicate _ AH.d).getD 0 AH.d)/\GX ((List.replicate _ AH.d).getD 0 AH.d) _ _;rw[Wp];have m:vM AH.d:=⟨Dy,Dy⟩
    refine⟨m,?_⟩;have P6:=IA hs (i:=((0:Nat):Int)) Dv Dv;have hw:=GW hs;unfold GX;rw[JG m Dv];have u:AL p.W p.H ((0:Nat):Int)=⟨0,0,0⟩:=by rw[HV hs Dv Dv];simp
    rw[u];have d0:AH.d=⟨0,0,0⟩:=rfl;rw[d0];simp[sq];try omega
  have v:Vo p.W p.H (EE p.l) (FQ (AJ p.W p.H)):=by intro j k;have c:((List.replicate (AJ p.W p.H) false).set 0 true).getD j false=true:=k;rw[OJ _ _ Dv]at c;have:j=0:=K7 c;subst this;exact .inl Fk
  obtain⟨n,w,f,o,q,x⟩:=c0z hs _ t v hr;have k0:n.kn.getD 0 false=true:=(x 0 (by show ((List.replicate _ false).set 0 true).getD 0 false=true;rw[OJ _ _ Dv];rfl)).1
  have a:=d1s hs f o q k0;rw[<-w];refine⟨f.ol,λi b=>⟨⟨(f.kn i (a i b)).1,b9z (f.kn i (a i b)).2 ?_⟩,λe y z=> ?_⟩⟩
  .have:=YV n.kn;have:=f.kl;omega
  .rcases q i (a i b)with g|g
   .rw[o]at g;cases g
   .have:=(g e y z).2;simpa using this
def Qy:List SV->Option (Prop×Pt×Mv)
 | [x,.agg [.int .u8 t,.int .i64 a,.int .i64 b]]=>(PP x).map λq=>((q.1/\∀c∈q.2.l,AE .u8 c.e)/\0<=t/\t<=255,q.2,⟨t,a,b⟩)
 |_=>none
def prOK(p:Pt)(r:Mv):Prop:=(p.l.length<=100000/\∀c∈p.l,AE .u8 c.e)/\0<=r.t/\r.t<=255
theorem c0f{l:List SV}{q:Prop}{p:Pt}{r:Mv}(h:Qy l=some (q,p,r))(b:q):BM l [Eo p,ID r]/\prOK p r:=by
 unfold Qy at h;split at h
 .simp only[Ic]at h;obtain⟨⟨a,p'⟩,hx,rfl,rfl,rfl⟩:=h;obtain⟨c,d⟩:=QX hx b.1.1;exact⟨⟨c,Gh,J5⟩,⟨d,b.1.2⟩,b.2⟩
 .cases h
theorem f77{k:AM}{a:Pt->Mv->SV}(b:∀l,k l=(Qy l).map λq=>(q.1,a q.2.1 q.2.2)):RQ ⟨Pt×Mv,λ(p,r)=>[Eo p,ID r],λ(p,r)=>prOK p r,λ(p,r)=>a p r⟩ k:=by intro args pre s h c;rw[b]at h;simp only[Ic]at h;obtain⟨⟨q,p,r⟩,hx,rfl,rfl⟩:=h;obtain⟨d,e⟩:=c0f hx c;exact⟨(p,r),d,e,rfl⟩
def d3t(p:Pt)(r:Mv):SV:=.tup [.sl 3 (BL p r).length (AH.row (BL p r)) none,.int .i64 (CH p r)]
def c5c:AM:=λl=>(Qy l).map λq=>(q.1,d3t q.2.1 q.2.2)
def f8h:Fam:=⟨Pt×Mv,λ(p,r)=>[Eo p,ID r],λ(p,r)=>prOK p r,λ(p,r)=>d3t p r⟩
theorem f83:PS 104 c5c:=by
 refine con [(82,VA)] (by simpa using f62) f8h (λ_ _=>none) c5c (f77 (λ_=>rfl)) ?_ Tryz.func104 Dw Dw Dw ?_
 .exact Bz
 .rintro⟨p,r⟩ hp;replace hp:prOK p r:=hp;exact X0h
def d15(p:Pt)(r:Mv):SV:=.tup [.sl 3 (CF p r).length (DE.row (CF p r)) none,.int .i64 (CH p r)]
def XY:AM:=λl=>(Qy l).map λq=>(q.1,d15 q.2.1 q.2.2)
def f6t:Fam:=⟨Pt×Mv,λ(p,r)=>[Eo p,ID r],λ(p,r)=>prOK p r,λ(p,r)=>d15 p r⟩
theorem c4d:PS 71 XY:=by
 refine con [(82,VA)] (by simpa using f62) f6t (λ_ _=>none) XY (f77 (λ_=>rfl)) ?_ Tryz.func71 Dw Dw Dw ?_
 .exact Bz
 .rintro⟨p,r⟩ hp;replace hp:prOK p r:=hp;exact X0h
def QW(m:Mv):Bool:= !(and (decide (DV m.t m.x m.y=0)) (decide (4<=m.t)))
def FP(p:Pt)(r:Mv):List Bool:=(BL p r).map QW
theorem c2c{p:Pt}{r:Mv}(b:0<=r.t):∀m∈BL p r,0<=m.t/\m.t<=255:=by
 intro m a;unfold BL at a;split at a
 .obtain⟨c,d,rfl⟩:=Jp.1 a;exact c6q ((c0d p).2.1 c d).1 b
 .simp at a
theorem c4p{p:Pt}{r:Mv}:(BL p r).length<=1024:=by
 unfold BL;split
 .rename_i h;have hs:BE p=0:=by
   unfold CH at h;split at h
   .assumption
   .rename_i a;exact absurd h a
  have:=(c0d p).2.2;have:=b2v (FO hs).1;simp only[Jv];omega
 .simp
def rUp(p:Pt)(r:Mv):SV:=.tup [.sl 1 (FP p r).length (GM.row (FP p r)) none,.int .i64 (CH p r)]
def kUp:AM:=λl=>(Qy l).map λq=>(q.1,rUp q.2.1 q.2.2)
def FUp:Fam:=⟨Pt×Mv,λ(p,r)=>[Eo p,ID r],λ(p,r)=>prOK p r,λ(p,r)=>rUp p r⟩
def IUp:Pt×Mv->Nat->Option Inv
 |(p,r),6=>some {β:=Nat,ok:=λi=>i<=(BL p r).length,st:=λi=>⟨[⟨27,none,.int .i64 i⟩,⟨26,none,.int .i64 (BL p r).length⟩,⟨25,none,.sl 3 (BL p r).length (AH.row (BL p r)) none⟩,⟨9,none,.osl 2⟩,⟨5,none,.int .i64 0⟩],
    [.cells 29 [.int .i64 p.W,.int .i64 p.H,.sl 3 p.l.length (DZ p.l) none],.cells 31 [.int .u8 r.t,.int .i64 r.x,.int .i64 r.y],.row 4 1 (BL p r).length (λj=>GM.sv (upto (λj=>QW ((BL p r).getD j AH.d)) (λ_=>false) i j)) none]⟩,μ:=λi=>(BL p r).length-i}
 |_,_=>none
theorem pUp:PS 44 kUp:=by
 refine con [(82,VA),(45,c69)] (by simpa using⟨f62,pFlips⟩) FUp IUp kUp (f77 (λ_=>rfl)) ?_ Tryz.func44 Dw Dw Dw ?_
 .exact Bz
 .rintro⟨p,r⟩ hp;replace hp:prOK p r:=hp;have k:=@c4p p r;have mq:(BL ⟨p.W,p.H,p.l⟩ ⟨r.t,r.x,r.y⟩).length<=1024:=k;have m:CH p r≠0->BL p r=[]:=λh=>(b2c h).1;have f:(FP p r).length=(BL p r).length:=by simp[FP]
  have b:∀j,j<(BL p r).length->(FP p r).getD j GM.d=QW ((BL p r).getD j AH.d):=λj a=>by simp[FP,a]
  refine X0 _ ?_;(repeat' first|constructor|intro h)<;>refine Lm ?_
  all_goals(try simp only[CU]at*)
  all_goals(first
   |exact Bb
   |(refine⟨Dv,Dv,Qz Dw Dv Dv,Dv⟩)
   |(rw[f,m (by simpa using ‹(!decide (CH _ _=0))=true›)];rfl)
   |skip)
  refine⟨(0:Nat),Je _,?_,?_⟩
  .refine X0 _ ?_;(repeat' first|constructor|intro h)<;>refine Lm ?_
   all_goals(first
    |exact A6
    |(intro j a;show _=GM.sv (upto _ _ 0 j);rw[b6q];rfl)
    |skip)
  .intro i g;replace g:i<=(BL p r).length:=g;have n:i<(BL p r).length->0<=((BL p r).getD i AH.d).t/\((BL p r).getD i AH.d).t<=255:=λh=>by
    rw[Ix,Iy h];exact c2c hp.2.1 _ (K2 h)
   refine X0 _ ?_;(repeat' first|constructor|intro h)<;>refine Lm ?_
   all_goals(try simp only[Ia,c0y _ _ (J9 i),Ib]at*)
   all_goals(first
    |omega
    |exact n Dv
    |exact A7
    |(show i<(BL p r).length;omega)
    |(refine⟨i+1,Ea,E7,?_⟩)
    |(have e:CH p r=0:=by assumption
      exact e.symm)
    |exact f.symm
    |(intro j a;show GM.sv _=GM.sv _;rw[b8u _ _ Dv,b j Dv])
    |skip)
   all_goals refine X0 _ ?_;(repeat' first|constructor|intro h)<;>refine Lm ?_
   all_goals(try simp only[])
   all_goals(first
    |exact Ar
    |(intro j a;exact b6e GM (λ_ _=>rfl) (λ_ _=>rfl) (λj=>QW ((BL p r).getD j AH.d)) _ i j)
    |skip)
theorem Wc{p:Pt}{i e:Int}(h:BE p=0)(r:AX p.W p.H i e=0):EE p.l (DG p.W p.H i e)=true↔AW p i e≠0:=by
 obtain⟨hs,s,h1,h2⟩:=FO h;have t:=b91 h;have u:IY p i e=0:=by simp[IY,h,r]
 have v:LZ p i e=LQ p.l (EI p.W p.H i e) (FC p.W p.H i e):=by simp[LZ,u]
 unfold AW DG;rw[v];generalize EI p.W p.H i e=a;generalize FC p.W p.H i e=b;constructor
 .intro w;obtain⟨x,hx,y⟩:=Jj.1 w;obtain⟨j,hj,rfl⟩:=Jw.1 hx;have g:a=p.l[j].c/\b=p.l[j].e:=by simpa[GD]using y
  have d:p.l.getD j d0=p.l[j]:=Hd;have m:KZ (p.l.getD j d0) a b=0:=by
   rw[d];unfold KZ;try unfold JH
   rw[g.1,g.2];simp
  have n:IZ p.l a b=j:=c8j p.l j Dv (λk z=>by have:=t k j z hj;rw[d,<-g.1,<-g.2]at this;exact this) (λ_=>Dv)
  have f:LQ p.l a b=true:=by unfold LQ;rw[n];rw[d]at m;simp[hj,m]
  rw[f,n];simp only[Mz];have:=Jg.1 s p.l[j] (K2 hj);rw[d];intro A;simp[MH,Qo,A]at this
 .intro q;cases f:LQ p.l a b with
  |false=>rw[f]at q;exact absurd rfl q
  |true=>
   unfold LQ at f;simp only[Ij]at f;have hj:IZ p.l a b<p.l.length:=Dv;have d:p.l.getD (IZ p.l a b) d0=p.l[IZ p.l a b]:=Hd;refine Jj.2 ⟨p.l[IZ p.l a b],K2 hj,?_⟩;have o:=f.2;rw[d]at o;have:a=p.l[IZ p.l a b].c/\b=p.l[IZ p.l a b].e:=by
    unfold KZ at o;try unfold JH at o
    split at o<;>omega
   simp[GD,<-this.1,<-this.2]
structure PlOK (p:Pt) (r:Mv):Prop where
 pl:(BL p r).length=AJ p.W p.H
 il:(CF p r).length=AJ p.W p.H
 vm:∀i:Nat,i<AJ p.W p.H->vM ((BL p r).getD i AH.d)
 im:∀i:Nat,i<AJ p.W p.H->(CF p r).getD i DE.d=Dl ((BL p r).getD i AH.d) (AL p.W p.H i)/\vC ((CF p r).getD i DE.d)
 pass:∀(i:Nat) (e:Int),i<AJ p.W p.H->0<=e/\e<3->AX p.W p.H i e=0->AW p i e=0->(BL p r).getD (AG p.W p.H i e).toNat AH.d=(BL p r).getD i AH.d
 loop:∀(i:Nat) (e:Int),i<AJ p.W p.H->0<=e/\e<3->AX p.W p.H i e=0->AW p i e≠0->
  (CF p r).getD (AG p.W p.H i e).toNat DE.d=(CF p r).getD i DE.d/\Dl ((BL p r).getD (AG p.W p.H i e).toNat AH.d) (AL p.W p.H i)=Dl ((BL p r).getD i AH.d) (AL p.W p.H (AG p.W p.H i e))
theorem Qi{p:Pt}{r:Mv}(h:CH p r=0):BE p=0/\DV r.t r.x r.y=0/\JC p=0/\∀i,i<(BD p).length->JQ p r i=0:=by
 unfold CH at h;split at h
 .rename_i a;split at h
  .rename_i c;split at h
   .rename_i b;exact⟨a,c,b,λi hi=>b6a h i Dv Dv⟩
   .rename_i b;exact absurd h b
  .cases h
 .rename_i a;exact absurd h a
theorem f9h{m:Mv}{c:Cl}{K:Int}(a:vM m)(b:(-4200<=c.x/\c.x<=4200)/\(-4200<=c.y/\c.y<=4200)/\0<=c.q/\c.q<=3)(d:GX m c K)(hK:K<=4096):vC (Dl m c):=by unfold GX at d;refine⟨Dv,Dv,?_⟩;rw[JG a b];exact f2c (FX a) b.2.2
theorem PJ{p:Pt}{r:Mv}(A:0<=r.t)(h:CH p r=0):PlOK p r:=by
 obtain⟨C,S,T,U⟩:=Qi h;have hs:=(FO C).1;have hN:=CR hs;obtain⟨V,rel⟩:=b5f hs T;obtain⟨pl,k⟩:=Sy h;obtain⟨N,O⟩:=b0k h;rw[V]at pl k N O;have vr:vM r:=⟨A,S⟩
 have b:∀i:Nat,i<AJ p.W p.H->HF ((BD p).getD i AH.d).t ((BD p).getD i AH.d).x ((BD p).getD i AH.d).y r.t r.x r.y=0/\SJ p.W p.H (HC ((BD p).getD i AH.d) r) i=0:=by
  intro i a;have:=U i Dv;unfold JQ at this;split at this
  .rename_i w;exact⟨w,this⟩
  .rename_i w;exact absurd this w
 have f:∀(i:Nat) (c:Cl) (K:Int),i<AJ p.W p.H->(0<=c.x/\c.x<=300)/\(0<=c.y/\c.y<=300)/\0<=c.q/\c.q<=3->GX ((BD p).getD i AH.d) c K->K<=4096->Dl (HC ((BD p).getD i AH.d) r) c=Dl r (Dl ((BD p).getD i AH.d) c):=by intro i c K a s g X;obtain⟨⟨z,_⟩,_⟩:=rel i a;exact b9n z.1 A (b i a).1 Fx (f9h z Dv g X)
 have wide:∀i:Int,0<=i->i<4*p.W*p.H->(0<=(AL p.W p.H i).x/\(AL p.W p.H i).x<=300)/\(0<=(AL p.W p.H i).y/\(AL p.W p.H i).y<=300)/\0<=(AL p.W p.H i).q/\(AL p.W p.H i).q<=3:=λi Y w=>OW hs Y w;have n:∀i:Nat,i<AJ p.W p.H->(CF p r).getD i DE.d=Dl ((BL p r).getD i AH.d) (AL p.W p.H i)/\vC ((CF p r).getD i DE.d):=by
  intro i a;rw[O i a,k i a];have u:=(b i a).2;have P:Wu p r i=Dl (KP p r i) (AL p.W p.H i):=by unfold Wu imC KP Dl AL;simp only[u,keep,Ke]
  refine⟨P,?_⟩;rw[P];have E:vM (KP p r i):=(Vv (rel i a).1.1.1 A (b i a).1).2.2.2;unfold SJ HO at u;have Z:=wide i Dv Dv;split at u
  .split at u
   .rename_i h3;have F:EY (Dl (KP p r i) (AL p.W p.H i)).x (Dl (KP p r i) (AL p.W p.H i)).y (Dl (KP p r i) (AL p.W p.H i)).q=0:=h3;unfold EY at F;split at F
    .rename_i h5;refine⟨Dv,Dv,?_⟩;rw[JG E Dv];exact f2c (FX E) Z.2.2
    .cases F
   .cases u
  .cases u
 refine⟨pl,N,λi a=> ?_,n,λi e a m g G=> ?_,λi e a m g G=> ?_⟩
 .rw[k i a];exact(Vv (rel i a).1.1.1 A (b i a).1).2.2.2
 .obtain⟨⟨I,J⟩,B⟩:=FL hs (i:=i) Dv Dv m g;have s:EE p.l (DG p.W p.H i e)=false:=by
   cases s:EE p.l (DG p.W p.H i e)with
   |false=>rfl
   |true=>exact absurd G ((Wc C g).1 s)
  have:=(rel i a).2 e m g;rw[b2m hs Dv Dv m g,s]at this;rw[k _ Dv,k i a];unfold KP;rw[this];rfl
 .obtain⟨⟨I,J⟩,B⟩:=FL hs (i:=i) Dv Dv m g;have s:=(Wc C g).2 G;have hx:=(rel i a).2 e m g;rw[b2m hs Dv Dv m g,s]at hx;simp only[Mz]at hx;obtain⟨⟨z,j⟩,_⟩:=rel i a;have v:(AG p.W p.H i e).toNat<AJ p.W p.H:=Dv;obtain⟨⟨E,nr2⟩,_⟩:=rel _ v;obtain⟨g1,Q,L⟩:=c2u m (wide i Dv Dv) z j Dv;rw[<-hx]at g1 Q L;have M:=c7m m (wide i Dv Dv) z j;have o:(((AG p.W p.H i e).toNat:Nat):Int)=AG p.W p.H i e:=Dv;have q1:GX ((BD p).getD (AG p.W p.H i e).toNat AH.d) (AL p.W p.H i) 1025:=by
   unfold GX at M⊢;rw[L];exact M
  have R:Dl ((BD p).getD (AG p.W p.H i e).toNat AH.d) (AL p.W p.H (AG p.W p.H i e))=Dl ((BD p).getD i AH.d) (AL p.W p.H i):=by rw[B];exact Q
  have q3:GX ((BD p).getD (AG p.W p.H i e).toNat AH.d) (AL p.W p.H (AG p.W p.H i e)) 1024:=by unfold GX at j⊢;rw[R];exact j
  refine⟨?_,?_⟩
  .rw[(n _ v).1,(n i a).1,o,k _ v,k i a];unfold KP;rw[f _ _ 1024 v (wide _ I J) q3 Dv,R,f i _ 1024 a (wide i Dv Dv) j Dv]
  .rw[k _ v,k i a];unfold KP;rw[f _ _ 1025 v (wide i Dv Dv) q1 Dv,L,f i _ 1025 a (wide _ I J) (by rw[B];exact M) Dv,B]
def Ol(P:Int->Bool)(l:List Int):Int:=match l.findIdx? P with
 |some i=>i
 |none=> -1
theorem c00{P:Int->Bool}{l:List Int}{i:Nat}(hi:i<l.length)(h:∀j,j<i->P (l.getD j 0)=false)(a:P (l.getD i 0)=true):Ol P l=i:=by
 have:l.findIdx? P=some i:=by
  rw[Kd];refine⟨hi,?_,λj b=> ?_⟩
  .simpa[Ix,hi]using a
  .have:=h j b;have c:j<l.length:=Dv;simpa[Ix,c]using this
 simp[Ol,this]
theorem d77{P:Int->Bool}{l:List Int}(h:∀j,j<l.length->P (l.getD j 0)=false):Ol P l= -1:=by
 have:l.findIdx? P=none:=by rw[L5];intro x hx;obtain⟨j,a,rfl⟩:=Jw.1 hx;have:=h j a;simpa[Ix,a]using this
 simp[Ol,this]
theorem b8w(P:Int->Bool)(l:List Int):decide (0<=Ol P l)=l.any P:=by
 unfold Ol;cases h:l.findIdx? P with
 |none=>
  have:=L5.1 h;have:l.any P=false:=by rw[Jg];intro x hx;simpa using this x hx
  rw[this];rfl
 |some i=>
  have:=Kd.1 h;obtain⟨a,b,_⟩:=this;have:l.any P=true:=Jj.2 ⟨_,K2 a,b⟩;rw[this];simp
def capN:SV->Option (Prop×Int)
 |.rel 1 1 f 0 0=>match f 0 with
  | [.int .i64 n]=>some (f=(λ_=>[.int .i64 n]),n)
  |_=>none
 |_=>none
def Wg(n:Int):SV:=.rel 1 1 (λ_=>[.int .i64 n]) 0 0
theorem c4e{s:SV}{q:Prop}{n:Int}(h:capN s=some (q,n))(a:q):s=Wg n:=by
 unfold capN at h;split at h
 .split at h
  .cases h;rw[a];rfl
  .cases h
 .cases h
def OP(n v:Int):Bool:=decide (v<0)||decide (v>=n)
def b9g:AM
 | [.int .i64 v,s]=>(capN s).map λn=>(n.1,.bool (OP n.2 v))
 |_=>none
def g0c:Fam:=⟨Int×Int,λ(v,n)=>[.int .i64 v,Wg n],λ_=>True,λ(v,n)=>.bool (OP n v)⟩
theorem g1v:PS 168 b9g:=by
 refine con [] Dx g0c (λ_ _=>none) b9g ?_ ?_ Tryz.func168 Dw Dw Dw ?_
 .intro args pre s h a;unfold b9g at h;split at h
  .rename_i v x;simp only[J7]at h;obtain⟨⟨q,n⟩,hx,b⟩:=h;cases b;rw[c4e hx a];exact⟨(v,n),⟨E4,by simp[Wg,SV.le2,SV.le1,SV.le0],J5⟩,J5,rfl⟩
  .cases h
 .exact Bz
 .rintro⟨v,n⟩ a;refine X0 _ ?_;(repeat' first|constructor|intro h)<;>refine Lm ?_
  all_goals(first|rfl|skip)
def b96:AM
 | [x,.clo g [c]]=>if g=168 then(match AC.as x with
   |some (n,f)=>(capN c).map λm=>(m.1/\AC.isL n f/\n<=100000,.int .i64 (Ol (OP m.2) (AC.lst n f)))
   |none=>none)else none
 |_=>none
def d25:Fam:=⟨List Int×Int,λ(l,m)=>[.sl 1 l.length (AC.row l) none,.clo 168 [Wg m]],λ(l,_)=>l.length<=100000,λ(l,m)=>.int .i64 (Ol (OP m) l)⟩
def f82:List Int×Int->Nat->Option Inv
 |(l,m),2=>some {β:=Nat,ok:=λi=>i<=l.length/\∀j,j<i->OP m (l.getD j 0)=false,st:=λi=>⟨[⟨8,none,.int .i64 i⟩,⟨7,none,.int .i64 l.length⟩,⟨1,none,.clo 168 [Wg m]⟩,⟨0,none,.sl 1 l.length (AC.row l) none⟩],[]⟩,μ:=λi=>l.length-i}
 |_,_=>none
theorem f75:PS 169 b96:=by
 refine con [(168,b9g)] (by simpa using g1v) d25 f82 b96 ?_ ?_ Tryz.func169 Dw Dw Dw ?_
 .intro args pre s h a;unfold b96 at h;split at h
  .split at h
   .rename_i c;subst c;split at h
    .rename_i n f hx;simp only[J7]at h;obtain⟨⟨q,m⟩,d,g⟩:=h;cases g;rw[c4e d a.1];exact⟨(AC.lst n f,m),⟨Hl (AC.as_leL hx a.2.1),⟨rfl,rfl⟩,J5⟩,by simp only[d25,RT.lst_length];exact a.2.2,rfl⟩
    .cases h
   .cases h
  .cases h
 .exact Bz
 .rintro⟨l,m⟩ a;replace a:l.length<=100000:=a;refine X0 _ ?_;(repeat' first|constructor|intro h)<;>refine Lm ?_
  refine⟨(0:Nat),⟨Je _,λj hj=>Dv⟩,?_,?_⟩
  .exact X0c
  .intro i k;obtain⟨dv,br⟩:=k;refine X0 _ ?_;(repeat' first|constructor|intro h)<;>refine Lm ?_
   all_goals(try simp only[Ia]at*)
   all_goals(first
    |exact Ap
    |rfl
    |exact(c00 Dv br Dz).symm
    |(refine⟨i+1,⟨Dv,λj hj=> ?_⟩,E7,?_⟩)
    |exact Bq
    |skip)
   .by_cases e:j<i
    .exact br j e
    .have:j=i:=Dv;subst this;assumption
   .exact X0d
def b9e:AM
 | [x,.clo g [c]]=>if g=168 then(match AC.as x with
   |some (n,f)=>(capN c).map λm=>(m.1/\AC.isL n f/\n<=100000,.bool ((AC.lst n f).any (OP m.2)))
   |none=>none)else none
 |_=>none
def d4z:Fam:=⟨List Int×Int,λ(l,m)=>[.sl 1 l.length (AC.row l) none,.clo 168 [Wg m]],λ(l,_)=>l.length<=100000,λ(l,m)=>.bool (l.any (OP m))⟩
theorem g1p:PS 127 b9e:=by
 refine con [(169,b96)] (by simpa using f75) d4z (λ_ _=>none) b9e ?_ ?_ Tryz.func127 Dw Dw Dw ?_
 .intro args pre s h a;unfold b9e at h;split at h
  .split at h
   .rename_i b;subst b;split at h
    .rename_i n f hx;simp only[J7]at h;obtain⟨⟨q,m⟩,c,d⟩:=h;cases d;rw[c4e c a.1];exact⟨(AC.lst n f,m),⟨Hl (AC.as_leL hx a.2.1),⟨rfl,rfl⟩,J5⟩,by simp only[d4z,RT.lst_length];exact a.2.2,rfl⟩
    .cases h
   .cases h
  .cases h
 .exact Bz
 .rintro⟨l,m⟩ a;replace a:l.length<=100000:=a;refine X0 _ ?_;(repeat' first|constructor|intro h)<;>refine Lm ?_
  all_goals(try simp only[RT.lst_row]at*)
  all_goals(first
   |exact⟨J5,AC.isL_row l,a⟩
   |exact b8w _ _
   |skip)
def BG(L:List Stk):List Int:=L.flatMap (·.l)
def Kl(n:Int)(L:List Stk)(i:Nat):Bool:=
 (!decide (EY (L.getD i AA.d).c.x (L.getD i AA.d).c.y (L.getD i AA.d).c.q=0)||decide (0<(i:Int))&&decide (0<=FZ (L.getD ((i:Int)-1).toNat AA.d).c.x (L.getD ((i:Int)-1).toNat AA.d).c.y (L.getD ((i:Int)-1).toNat AA.d).c.q (L.getD i AA.d).c.x (L.getD i AA.d).c.y (L.getD i AA.d).c.q)||decide (((L.getD i AA.d).l.length:Int)=0))||(L.getD i AA.d).l.any (OP n)
def IL:List Int->Bool
 | []=>false
 |x::l=>l.contains x||IL l
def JV(W H:Int)(L:List Stk):Int:=
 if AV W H=0 then(if(List.range L.length).any (Kl (EA W H) L)then 1 else if IL (BG L)then 8 else if((BG L).length:Int)<EA W H then 6 else 0)else AV W H
def FJ(L:List Stk)(i k:Nat):List Int:=BG (L.take i)++(L.getD i AA.d).l.take k
def YL(W H:Int)(L:List Stk):Int:=if IL (BG L)then 8 else if((BG L).length:Int)<EA W H then 6 else 0
def c3u(W H:Int)(L:List Stk):Prop:=∀i,i<L.length->∀v∈(L.getD i AA.d).l,0<=v/\v<EA W H
def ownC(W H:Int)(l:List Int):List Blk:=[.cells 26 [.int .i64 W,.int .i64 H],.cells 3 [.int .i64 (EA W H)],.row 4 1 (EA W H).toNat (λj=>[.bool (l.contains (j:Int))]) none]
theorem c89(L:List Stk)(i:Nat):FJ L i 0=BG (L.take i):=by simp[FJ]
theorem c68{L:List Stk}{i:Nat}(hi:i<L.length):FJ L i (L.getD i AA.d).l.length=FJ L (i+1) 0:=by
 rw[c89];have:L.take (i+1)=L.take i++[L.getD i AA.d]:=by rw[M0];simp[hi]
 simp[FJ,BG,this]
theorem b47{L:List Stk}{i k:Nat}(a:k<(L.getD i AA.d).l.length):FJ L i (k+1)=FJ L i k++[(L.getD i AA.d).l.getD k 0]:=by unfold FJ;rw[M0,M8];congr 1;rw[Ix (l:=(L.getD i AA.d).l),Iy a];simp
theorem c5g(L:List Stk):FJ L L.length 0=BG L:=by simp[c89]
theorem b9x{L:List Stk}{i k:Nat}(hi:i<L.length):∃m,BG L=FJ L i k++m:=by
 have a:L=L.take i++L.getD i AA.d::L.drop (i+1):=by have:=List.take_append_drop i L;rw[List.drop_eq_getElem_cons hi]at this;simp[hi]
 refine⟨(L.getD i AA.d).l.drop k++BG (L.drop (i+1)),?_⟩;have b:BG L=BG (L.take i)++((L.getD i AA.d).l++BG (L.drop (i+1))):=by
  conv=>lhs;rw[a]
  simp[BG]
 rw[b];unfold FJ;rw[M8,<-M8 (List.take k _),List.take_append_drop]
theorem c22(l:List Int)(x:Int):IL (l++[x])=(IL l||l.contains x):=by
 induction l with
 |nil=>rfl
 |cons a r c=>
  simp only[M5,IL,c,List.contains_cons];have:(r++[x]).contains a=(r.contains a||a==x):=by rw[L7];simp
  rw[this];cases r.contains a<;>cases IL r<;>cases r.contains x<;>simp[BEq.comm (a:=a) (b:=x)]
theorem d8m{l:List Int}(m:List Int)(h:IL l=true):IL (l++m)=true:=by
 induction l with
 |nil=>cases h
 |cons a r b=>
  simp only[M5,IL,K1]at h⊢;rcases h with h|h
  .left;simp at h⊢;exact .inl h
  .exact .inr (b h)
def b4n:AM
 | [x,.agg [.int .i64 W,.int .i64 H]]=>(KJ x).map λq=>(q.1/\(∀s∈q.2,AE .u8 s.c.q)/\(BG q.2).length<=100000,.int .i64 (JV W H q.2))
 |_=>none
def f1m:Fam:=⟨List Stk×Int×Int,λ(L,W,H)=>[DJ L,.agg [.int .i64 W,.int .i64 H]],λ(L,_,_)=>FN L/\(∀s∈L,AE .u8 s.c.q)/\(BG L).length<=100000,λ(L,W,H)=>.int .i64 (JV W H L)⟩
def d7w:List Stk×Int×Int->Nat->Option Inv
 |(L,W,H),6=>some {β:=Nat,ok:=λi=>i<=L.length/\∀j,j<i->Kl (EA W H) L j=false,st:=λi=>⟨[⟨25,none,.int .i64 i⟩,⟨24,none,.int .i64 L.length⟩,⟨23,none,.sl 4 L.length (AA.row L) none⟩,⟨6,none,.own 1 0⟩,⟨4,none,.int .i64 0⟩,⟨0,none,.sl 4 L.length (AA.row L) none⟩],[.cells 26 [.int .i64 W,.int .i64 H],.cells 3 [.int .i64 (EA W H)]]⟩,μ:=λi=>L.length-i}
 |(L,W,H),15=>some {β:=Nat,ok:=λi=>i<=L.length/\IL (FJ L i 0)=false/\JV W H L=YL W H L/\c3u W H L,st:=λi=>⟨[⟨68,none,.int .i64 i⟩,⟨67,none,.int .i64 L.length⟩,⟨66,none,.sl 4 L.length (AA.row L) none⟩,⟨11,none,.int .i64 (FJ L i 0).length⟩,⟨10,none,.osl 2⟩,⟨6,none,.own 1 0⟩,⟨4,none,.int .i64 0⟩],ownC W H (FJ L i 0)⟩,μ:=λi=>L.length-i,sub:=λi=>some fun|18=>some {β:=Nat,ok:=λk=>k<=(L.getD i AA.d).l.length/\IL (FJ L i k)=false,st:=λk=>⟨[⟨75,none,.int .i64 k⟩,⟨74,none,.int .i64 (L.getD i AA.d).l.length⟩,⟨73,none,.sl 1 (L.getD i AA.d).l.length (AC.row (L.getD i AA.d).l) none⟩,⟨68,none,.int .i64 i⟩,⟨67,none,.int .i64 L.length⟩,⟨66,none,.sl 4 L.length (AA.row L) none⟩,⟨11,none,.int .i64 (FJ L i k).length⟩,⟨10,none,.osl 2⟩,⟨6,none,.own 1 0⟩,⟨4,none,.int .i64 0⟩],ownC W H (FJ L i k)++[.cells 41 [.int .i64 (L.getD i AA.d).c.x,.int .i64 (L.getD i AA.d).c.y,.int .u8 (L.getD i AA.d).c.q,.sl 1 (L.getD i AA.d).l.length (AC.row (L.getD i AA.d).l) none]]⟩,μ:=λk=>(L.getD i AA.d).l.length-k}|_=>none}
 |_,_=>none
theorem f00:PS 126 b4n:=by
 refine con [(96,QF),(103,Vb),(123,Qu),(100,SB),(127,b9e)] (by simpa using⟨Tl,d3b,Ux,b11,g1p⟩) f1m d7w b4n ?_ ?_ Tryz.func126 Dw Dw Dw ?_
 .intro args pre s h a;unfold b4n at h;split at h
  .rename_i x W H;simp only[Ic]at h;obtain⟨⟨q,L⟩,hx,rfl,rfl⟩:=h;obtain⟨J,K⟩:=Oc hx a.1;exact⟨(L,W,H),⟨J,Eb,J5⟩,⟨K,a.2⟩,rfl⟩
  .cases h
 .exact Bz
 .rintro⟨L,W,H⟩ a;replace a:FN L/\(∀s∈L,AE .u8 s.c.q)/\(BG L).length<=100000:=a;have hc:0<=EA W H/\EA W H<=1024:=by
   unfold EA;split
   .have:=Qa ‹_›;have e:4*W*H=4*(W*H):=Li _ _ _;omega
   .omega
  have hl:=a.1.1;refine X0 _ ?_;(repeat' first|constructor|intro h)<;>refine Lm ?_
  .have M:¬AV W H=0:=E2;unfold JV;rw[J3 M]
  .refine⟨(0:Nat),⟨Je _,λj hj=>Dv⟩,?_,?_⟩
   .exact X0c
   .intro i t;obtain⟨N,g⟩:=t;have u:=Pw a.1 i;have hg2:=Pw a.1 (i-1);have w:∀k,AE .u8 (L.getD k AA.d).c.q:=λk=>by
     rw[Ix];cases y:L[k]? with
     |none=>exact(by simp only[AE];decide:AE .u8 0)
     |some s=>exact a.2.1 s (J6 y)
    refine X0 _ ?_;(repeat' first|constructor|intro h)<;>refine Lm ?_
    all_goals(try simp only[Ia,RT.lst_row]at*)
    all_goals(first
     |omega
     |exact u
     |exact⟨rfl,AC.isL_row _,u⟩
     |exact w _
     |exact Ae
     |exact An
     |exact A7
     |(rintro⟨_,hx⟩;have hx:=K7 hx;simp only[AE];omega)
     |(rintro⟨_,hx⟩;have hx:=K7 hx;omega)
     |(rintro⟨_,hx⟩;exact⟨w _,w _⟩)
     |skip)
    .have n:Kl (EA W H) L i=true:=Dz;have hs:AV W H=0:=I2;have:(List.range L.length).any (Kl (EA W H) L)=true:=Jj.2 ⟨i,Jn.2 Dv,n⟩;unfold JV;rw[Iz hs,Iz this]
    .have n:Kl (EA W H) L i=false:=Dz;refine⟨i+1,⟨Dv,λj hj=> ?_⟩,Dv,?_⟩
     .by_cases e:j<i
      .exact g j e
      .have:j=i:=Dv;subst this;exact n
     .exact X0d
    .refine⟨Dv,Dv,Qz Dw Dv Dv,Dv⟩
    .have hs:AV W H=0:=I2;have O:(List.range L.length).any (Kl (EA W H) L)=false:=by
      rw[Jg];intro j hj;have:=g j H6;simp[this]
     have P:JV W H L=YL W H L:=by unfold JV;rw[Iz hs,J3 (by simp[O])];rfl
     have Q:c3u W H L:=by intro j hj v o;have n:=g j Dv;unfold Kl at n;rw[Kk]at n;have:=Jg.1 n.2 v o;simp[OP]at this;omega
     refine⟨(0:Nat),⟨Je _,rfl,P,Q⟩,?_,?_⟩
     .exact X0d
     .intro i t;obtain⟨N,g,r,F⟩:=t;have u:=Pw a.1 i;refine X0 _ ?_;(repeat' first|constructor|intro h)<;>refine Lm ?_
      all_goals(try simp only[Ia]at*)
      all_goals(first
       |exact Be
       |skip)
      .have f:i<L.length:=Dv;refine⟨(0:Nat),⟨Je _,g⟩,?_,?_⟩
       .exact X0d
       .intro k y;obtain⟨gy,G⟩:=y;obtain⟨m,R⟩:=b9x (k:=k) f;have S2:(FJ L i k).length<=100000:=by
         have:=a.2.2;rw[R,Jx]at this;omega
        have o:k<(L.getD i AA.d).l.length->0<=(L.getD i AA.d).l.getD k AC.d/\(L.getD i AA.d).l.getD k AC.d<EA W H:=λh=>F i f _ (by rw[Ix (l:=(L.getD i AA.d).l),Iy h];exact K2 h)
        refine X0 _ ?_;(repeat' first|constructor|intro h)<;>refine Lm ?_
        all_goals(try simp only[Ia]at*)
        all_goals(first
         |exact Be
         |(have:=o Dv;omega)
         |(show ((L.getD i AA.d).l.getD k AC.d).toNat<(EA W H).toNat;have:=o Dv;omega)
         |skip)
        .have S:=o Dv;rw[show ((((L.getD i AA.d).l.getD k AC.d).toNat:Nat):Int)=(L.getD i AA.d).l.getD k AC.d from Dv]at*;obtain⟨T,U⟩:=b9x (k:=k+1) f;rw[r];unfold YL;rw[Iz];rw[U];refine d8m T ?_;rw[b47 Dv,c22];rw[K1];right;assumption
        .have S:=o Dv;rw[show ((((L.getD i AA.d).l.getD k AC.d).toNat:Nat):Int)=(L.getD i AA.d).l.getD k AC.d from Dv]at*;have V:(FJ L i k).contains ((L.getD i AA.d).l.getD k AC.d)=false:=Dz;have z:=b47 (L:=L) (i:=i) (k:=k) Dv;refine⟨k+1,⟨Dv,?_⟩,Dv,?_⟩
         .rw[z,c22,G,N4];exact V
         .refine X0 _ ?_;(repeat' first|constructor|intro h)<;>refine Lm ?_
          all_goals first
           |exact Ay
           |(rw[z,Jx];rfl)
           |skip
          intro j hj;rw[z];by_cases I:j=((L.getD i AA.d).l.getD k AC.d).toNat
          .have A:(j:Int)=(L.getD i AA.d).l.getD k AC.d:=Dv;have B:((FJ L i k)++[(L.getD i AA.d).l.getD k 0]).contains ((L.getD i AA.d).l.getD k AC.d)=true:=by
            rw[N6,Jb,Jy];exact .inr (Js.2 rfl)
           rw[Jf I,A,B];rfl
          .have A:¬(j:Int)=(L.getD i AA.d).l.getD k AC.d:=Dv;rw[Ji I];have B:((FJ L i k)++[(L.getD i AA.d).l.getD k 0]).contains (j:Int)=(FJ L i k).contains (j:Int):=by
            rw[L7];have X:¬(j:Int)=(L.getD i AA.d).l.getD k 0:=A;simp only[N6,Jy,Js,Jb,X,or_false]
           rw[B];rfl
        .have C:k=(L.getD i AA.d).l.length:=Dv;subst C;have E:=c68 f;refine⟨i+1,⟨Dv,by rw[<-E];exact G,r,F⟩,Dv,?_⟩;refine X0 _ ?_;(repeat' first|constructor|intro h)<;>refine Lm ?_
         all_goals first
          |exact Ay
          |(rw[E];done)
          |(intro j hj;rw[E];done)
          |skip
      .have f:i=L.length:=Dv;subst f;rw[c5g]at*;rw[r];unfold YL;rw[J3 (by simp[g]),Iz Dz]
      .have f:i=L.length:=Dv;subst f;rw[c5g]at*;rw[r];unfold YL;rw[J3 (by simp[g]),J3 Dz]
end Go.Proofs.YtaihldljnlgnoaaGreatDoor.V
