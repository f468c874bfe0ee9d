/-
  Parts of the proof: C4 C5 C6 C7 Q4 A22 C8 A10 A11 A12a D1 A12 A13 D2 D3 A14 D4 A18 A19 A20 A21 C9a. Conditions: none.
-/
import Derived.Test.YtaihldljnlgnoaaGreatDoorSmc7
import Derived.Shelf.Lay
import Derived.Shelf.SortM.Plain
import Derived.Shelf.SortM.SortNone
import Derived.Ground.SlgmProg
set_option maxRecDepth 100000
set_option maxHeartbeats 40000000
namespace Go.Proofs
open Go Go.Lib Go.RowKit Go.Shelf Go.Sort
shelf_lay_g SlLaysF0.n6 Slsf 6 at Tryz 139 as Tryz.sortPass
shelf_lay_g SlLaysF0.n6 Slsf 6 at Tryz 141 as Tryz.sortLoop
shelf_lay_g SlLaysM.n5 Slgm 5 at Tryz 144 as Tryz.sortInts
end Go.Proofs
namespace Go.Proofs.YtaihldljnlgnoaaGreatDoor.V
open Go
def Vl:SV->Option (Prop×List Int)
 |.rel 1 1 f 0 0=>match f 0 with
  | [.rel 8 1 g 0 0]=>match g 0 with
    | [_,_,_,_,_,.sl 1 n h _,_,_]=>some ((∀j,g j=g 0)/\h=AC.row (AC.lst n h),AC.lst n h)
    |_=>none
  |_=>none
 |_=>none
abbrev C8:=SV×SV×SV×SV×SV×SV×SV×Option Nat
def capS:List Int->C8->SV
 |l,(a,b,c,d,e,f,g,h)=>.rel 1 1 (λ_=>[.rel 8 1 (λ_=>[a,b,c,d,e,.sl 1 l.length (AC.row l) h,f,g]) 0 0]) 0 0
theorem d37{s:SV}{q:Prop}{l:List Int}(h:Vl s=some (q,l))(k:q):∃z,s.le2 (capS l z):=by
 unfold Vl at h;split at h
 .split at h
  .split at h
   .rename_i f _ g m _ a b c d e n o i x y r;cases h;obtain⟨t,u⟩:=k;refine⟨(a,b,c,d,e,x,y,i),?_⟩;simp only[capS,SV.le2,SV.le1,SV.le0,Nx,RT.lst_length];intro j hj;rw[show j=0 from E4,m];have v:g=λ_=>[a,b,c,d,e,.sl 1 n o i,x,y]:=Ms λj=>by rw[t j,r]
    rw[v,<-u]
   .cases h
  .cases h
 .cases h
def WQ:AK
 | [.agg [.int .i64 a,.int .i64 _],.agg [.int .i64 c,.int .i64 _],s]=>(Vl s).map λq=>(q.1/\(0<=a/\a<q.2.length)/\0<=c/\c<q.2.length,.int .i64 (CT (q.2.getD a.toNat 0) (q.2.getD c.toNat 0)))
 |_=>none
def FSrt1:Fam:=⟨(Int×Int×Int×Int)×List Int×C8,λ((a,b,c,d),l,z)=>[.agg [.int .i64 a,.int .i64 b],.agg [.int .i64 c,.int .i64 d],capS l z],λ((a,_,c,_),l,_)=>(0<=a/\a<l.length)/\0<=c/\c<l.length,λ((a,_,c,_),l,_)=>.int .i64 (CT (l.getD a.toNat 0) (l.getD c.toNat 0))⟩
theorem pSrt1:PS 140 WQ:=by
 refine con [(115,Ti)] (by simpa using pCmp) FSrt1 (λ_ _=>none) WQ ?_ ?_ Tryz.func140 E5 E5 E5 ?_
 .intro args pre s h e;unfold WQ at h;split at h
  .rename_i a b c d x;simp only[Jk]at h;obtain⟨⟨q,l⟩,hx,f⟩:=h;cases f;obtain⟨z,g⟩:=d37 hx e.1;exact⟨((a,b,c,d),l,z),⟨Ej,Ej,g,Ji⟩,e.2,rfl⟩
  .cases h
 .exact C5
 .rintro⟨⟨a,b,c,d⟩,l,x1,x2,x3,x4,x5,x6,x7,cp⟩ e;replace e:(0<=a/\a<l.length)/\0<=c/\c<l.length:=e;refine X0a _ ?_;(repeat' first|constructor|intro h)<;>refine Lm ?_
  all_goals(first|exact e.1|exact e.2|rfl|skip)
section
open Go.Sort Go.Proofs Go.Shelf
def PE(l:List Int)(x:Pa):List Int:=[l.getD x.a.toNat 0]
def b9h:KZ:=λ_ d n g b=>match b with
 | [.clo f [c]]=>if f=140/\d=2 then(Vl c).map λq=>(q.1/\Bo.is n g/\n<=100000/\(∀x∈Bo.lst n g,0<=x.a/\x.a<q.2.length)/\(∀x∈Bo.lst n g,∀y∈Bo.lst n g,PE q.2 x=PE q.2 y->x=y),Bo.row (GY (PE q.2) (Bo.lst n g)),false)else none
 |_=>none
theorem f7e:ES 139 b9h:=by
 refine g1s Bo Tryz.sortPass rfl ⟨_,Tryz.func139,E5,E5⟩ (λw=>Tryz.isAgg229 w) (λw=>Tryz.sizeOf229 w) (λ_=>rfl) (λx s hs=> ?_) WQ pSrt1 (enters_of Tryz.func140 E5 rfl) b9h ?_
 .simp[Bo]at hs;rcases hs with rfl|rfl
  .exact Ce
  .exact Ce
 .intro T sz n g rest pre g' r h;unfold b9h at h;split at h;rotate_left
  .cases h
  rename_i f c;split at h;rotate_left
  .cases h
  rename_i i;obtain⟨rfl,rfl⟩:=i;simp only[Jk]at h;obtain⟨⟨q,l⟩,hx,j⟩:=h;cases j;refine⟨rfl,rfl,[c],PE l,rfl,λd=>⟨d.2.1,d.2.2.1,λx k y m=> ?_,d.2.2.2.2,rfl⟩⟩;refine⟨q/\(0<=x.a/\x.a<l.length)/\0<=y.a/\y.a<l.length,?_,d.1,d.2.2.2.1 x k,d.2.2.2.1 y m⟩;show WQ [.agg [.int .i64 x.a,.int .i64 x.b],.agg [.int .i64 y.a,.int .i64 y.b],c]=_;simp only[WQ,hx,Kn,Ir,Nx,SV.int.injEq];simp only[PE,AZ];split
  .rename_i e;rw[e];simp[CT]
  .rfl
end
def LQ:List Int->Int
 | []=>0
 |a::r=>if a=0 then LQ r else a
theorem d53:∀{l:List Int} {i:Nat},(∀j,j<i->l.getD j 0=0)->i<l.length->l.getD i 0≠0->LQ l=l.getD i 0
 | [],_,_,h,_=>Ee
 |a::r,0,_,_,hv=>by simp only[LQ];rw[Jg Ga];rfl
 |a::r,i+1,h,hi,hv=>by
  have b:a=0:=by simpa using h 0 E4
  simp only[LQ];rw[Jf b];have:=d53 (l:=r) (i:=i) (λj hj=>by simpa using h (j+1) E4) Ez Ga;simpa using this
theorem c6i:∀{l:List Int},(∀j,j<l.length->l.getD j 0=0)->LQ l=0
 | [],_=>rfl
 |a::r,h=>by
  have b:a=0:=by simpa using h 0 E6
  simp only[LQ];rw[Jf b];exact c6i (λj hj=>by simpa using h (j+1) Et)
def YI:AK
 | [x]=>match AC.as x with
   |some (n,f)=>some (AC.is n f/\n<=100000,.int .i64 (LQ (AC.lst n f)))
   |none=>none
 |_=>none
def FOrL:Fam:=⟨List Int,λl=>[.sl 1 l.length (AC.row l) none],λl=>l.length<=100000,λl=>.int .i64 (LQ l)⟩
def IOrL(l:List Int):Nat->Option Inv
 |3=>some {β:=Nat,ok:=λi=>i<=l.length/\∀j,j<i->l.getD j 0=0,st:=λi=>⟨[⟨8,none,.int .i64 i⟩,⟨7,none,.int .i64 l.length⟩,⟨6,none,.sl 1 l.length (AC.row l) none⟩,⟨3,none,.int .i64 0⟩],[]⟩,μ:=λi=>l.length-i}
 |_=>none
theorem pOrL:PS 108 YI:=by
 refine con [] E6 FOrL IOrL YI ?_ ?_ Tryz.func108 E5 E5 E5 ?_
 .intro args pre s h a;unfold YI at h;split at h
  .split at h
   .rename_i n f hx;cases h;exact⟨AC.lst n f,⟨HT (AC.as_le hx a.1),Ji⟩,by simp only[FOrL,RT.lst_length];exact a.2,rfl⟩
   .cases h
  .cases h
 .exact C4
 .rintro l a;replace a:l.length<=100000:=a;refine X0a _ ?_;(repeat' first|constructor|intro h)<;>refine Lm ?_
  refine⟨(0:Nat),⟨Js _,λj d=>E4⟩,?_,?_⟩
  .exact X0d
  .intro i g;obtain⟨dw,c⟩:=g;refine X0a _ ?_;(repeat' first|constructor|intro h)<;>refine Lm ?_
   all_goals(try simp only[In,Ip]at*)
   all_goals(first
    |exact As
    |(exact(d53 c E4 E8).symm)
    |(refine⟨i+1,⟨E4,λj d=> ?_⟩,Ef,?_⟩)
    |(exact(c6i (λj d=>c j E4)).symm)
    |skip)
   .by_cases e:j=i
    .subst e;exact h
    .exact c j E4
   .exact X0e
section
open Go.Sort Go.Proofs Go.Shelf
def Vf:AK
 | [.agg [.int .u8 p,.int .i64 a,.int .i64 _],.agg [.int .u8 q,.int .i64 c,.int .i64 _],s]=>(Vl s).map λz=>(z.1/\(0<=a/\a<z.2.length)/\0<=c/\c<z.2.length,.int .i64 (LQ [CT p q,CT (z.2.getD a.toNat 0) (z.2.getD c.toNat 0)]))
 |_=>none
def FSrt2:Fam:=⟨(Int×Int×Int×Int×Int×Int)×List Int×C8,λ((p,a,b,q,c,d),l,z)=>[.agg [.int .u8 p,.int .i64 a,.int .i64 b],.agg [.int .u8 q,.int .i64 c,.int .i64 d],capS l z],λ((_,a,_,_,c,_),l,_)=>(0<=a/\a<l.length)/\0<=c/\c<l.length,λ((p,a,_,q,c,_),l,_)=>.int .i64 (LQ [CT p q,CT (l.getD a.toNat 0) (l.getD c.toNat 0)])⟩
theorem pSrt2:PS 142 Vf:=by
 refine con [(115,Ti),(143,d9t),(108,YI)] (by simpa using⟨pCmp,pCmp8,pOrL⟩) FSrt2 (λ_ _=>none) Vf ?_ ?_ Tryz.func142 E5 E5 E5 ?_
 .intro args pre s h e;unfold Vf at h;split at h
  .rename_i p a b q c d x;simp only[Jk]at h;obtain⟨⟨w,l⟩,hx,f⟩:=h;cases f;obtain⟨z,g⟩:=d37 hx e.1;exact⟨((p,a,b,q,c,d),l,z),⟨Ej,Ej,g,Ji⟩,e.2,rfl⟩
  .cases h
 .exact C5
 .rintro⟨⟨p,a,b,q,c,d⟩,l,x1,x2,x3,x4,x5,x6,x7,cp⟩ e;replace e:(0<=a/\a<l.length)/\0<=c/\c<l.length:=e;refine X0a _ ?_;(repeat' first|constructor|intro h)<;>refine Lm ?_
  all_goals(first
   |exact e.1
   |exact e.2
   |rfl
   |exact⟨λi j=>match i,j with
    |0,_=>rfl
    |1,_=>rfl,E4⟩
   |skip)
def Pm(l:List Int)(x:Lo):List Int:=[x.s,l.getD x.a.toNat 0]
theorem lo_cmp(p q a b:Int):LQ [CT p q,CT a b]=AZ [p,a] [q,b]:=by
 simp only[LQ,AZ];by_cases e:p=q
 .subst e;rw[Jf rfl,show CT p p=0 by simp[CT],Jf rfl];by_cases c:a=b
  .subst c;simp[CT]
  .rw[Jg c];split<;>simp_all
 .rw[Jg e,Jg];unfold CT;split<;>(try split)<;>omega
def c07:KZ:=λ_ d n g b=>match b with
 | [.clo f [c]]=>if f=142/\d=3 then(Vl c).map λq=>(q.1/\BW.is n g/\n<=100000/\(∀x∈BW.lst n g,0<=x.a/\x.a<q.2.length)/\(∀x∈BW.lst n g,∀y∈BW.lst n g,Pm q.2 x=Pm q.2 y->x=y),BW.row (GY (Pm q.2) (BW.lst n g)),false)else none
 |_=>none
theorem g0u:ES 141 c07:=by
 refine g1s BW Tryz.sortLoop rfl ⟨_,Tryz.func141,E5,E5⟩ (λw=>Tryz.isAgg158 w) (λw=>Tryz.sizeOf158 w) (λ_=>rfl) (λx s hs=> ?_) Vf pSrt2 (enters_of Tryz.func142 E5 rfl) c07 ?_
 .simp[BW]at hs;rcases hs with rfl|rfl|rfl
  .exact Ce
  .exact Ce
  .exact Ce
 .intro T sz n g rest pre g' r h;unfold c07 at h;split at h;rotate_left
  .cases h
  rename_i f c;split at h;rotate_left
  .cases h
  rename_i e;obtain⟨rfl,rfl⟩:=e;simp only[Jk]at h;obtain⟨⟨q,l⟩,hx,i⟩:=h;cases i;refine⟨rfl,rfl,[c],Pm l,rfl,λd=>⟨d.2.1,d.2.2.1,λx j y k=> ?_,d.2.2.2.2,rfl⟩⟩;refine⟨q/\(0<=x.a/\x.a<l.length)/\0<=y.a/\y.a<l.length,?_,d.1,d.2.2.2.1 x j,d.2.2.2.1 y k⟩;show Vf [.agg [.int .u8 x.s,.int .i64 x.a,.int .i64 x.b],.agg [.int .u8 y.s,.int .i64 y.a,.int .i64 y.b],c]=_;simp only[Vf,hx,Kn,Pm,lo_cmp]
end
section
open Go.Sort Go.Proofs Go.Shelf
section
variable{α:Type} [Inhabited α] {enc:α->Value}{w:World}{b o m:Nat}{d:Array α}{os:Array Obj}
theorem d9a{i:Nat}(hi:i<w.heap.size)(a:i≠b):(grow (Go.Sort.putRow enc (Sort.ahead w m) b o d) os).heap[i]?=w.heap[i]?:=by rw[heap_grow_old _ _ Ia];show (w.heap.modify b _)[i]?=_;rw[Mq,Jg (Ne.symm a)]
theorem d4r{c:Array Value}{T:TypeId}{z:Nat×Nat}(h:w.heap[b]?=some (.cells c T z)):(grow (Go.Sort.putRow enc (Sort.ahead w m) b o d) os).heap[b]?=some (.cells (putCells enc o d c) T z):=by have hi:b<w.heap.size:=(Kp.1 h).1;rw[heap_grow_old _ _ Ia];show (w.heap.modify b _)[b]?=_;rw[Mq,Jf rfl,h];rfl
theorem f7c:w.heap.size<=(grow (Go.Sort.putRow enc (Sort.ahead w m) b o d) os).heap.size:=by simp[grow,Go.Sort.putRow,mapBlock,Sort.ahead]
theorem fr_pr{X:Nat->Prop}(a:X b):Fr w.heap.size X w (grow (Go.Sort.putRow enc (Sort.ahead w m) b o d) os):=
 ⟨rfl,rfl,rfl,λ_=>Nat.le_add_right _ _,f7c,λ_ c f=>d9a c (λe=>f (e▸a))⟩
end
def Up(x:Int):List Int->List Int
 | []=>[x]
 |y::r=>if x<=y then x::y::r else y::Up x r
def Nl(l:List Int):List Int:=l.foldr Up []
theorem b52(x:Int):∀l,(Up x l).Perm (x::l)
 | []=>.refl _
 |y::r=>by
  simp only[Up];split
  .exact .refl _
  .exact((b52 x r).cons y).trans (.swap x y r)
theorem b1m:∀l,(Nl l).Perm l
 | []=>.refl _
 |x::l=>(b52 x _).trans ((b1m l).cons x)
theorem b0d(l:List Int):(Nl l).length=l.length:=(b1m l).length_eq
theorem d69(l:List Int)(x:Int):x∈Nl l↔x∈l:=(b1m l).mem_iff
theorem b57(x:Int):∀l,l.Pairwise (λa b=>a<=b)->(Up x l).Pairwise (λa b=>a<=b)
 | [],_=>List.pairwise_singleton _ _
 |y::r,h=>by
  have d:=Kz.1 h;simp only[Up];split
  .rename_i e;exact Kz.2 ⟨λz c=>by
    rcases Jt.1 c with rfl|c
    .exact e
    .exact Int.le_trans e (d.1 z c),h⟩
  .rename_i e;refine Kz.2 ⟨λz c=> ?_,b57 x r d.2⟩;rcases Jt.1 ((b52 x r).mem_iff.1 c)with rfl|c
   .omega
   .exact d.1 z c
theorem b3w:∀l,(Nl l).Pairwise (λa b=>a<=b)
 | []=>List.Pairwise.nil
 |x::l=>b57 x _ (b3w l)
theorem c3h(l:List Int):(l.mergeSort λx y=>decide (x<=y))=Nl l:=by have f:=List.mergeSort_perm l (λx y=>decide (x<=y));refine List.Perm.eq_of_pairwise (le:=λa b=>a<=b) (λa b _ _ d e=>Int.le_antisymm d e) ?_ (b3w l) (f.trans (b1m l).symm);have:=List.pairwise_mergeSort (le:=λx y:Int=>decide (x<=y)) (λa b c d e=>by simp only[Jq]at*;omega) (λa b=>by simp only[Kk,Jq];omega) l;exact this.imp λh=>Ea
def d6m:KZ:=λ_ b n g a=>match a with
 | []=>if b=1 then some (AC.is n g/\n<=100000,AC.row (Nl (AC.lst n g)),false)else none
 |_=>none
theorem xSortI:ES 144 d6m:=by
 refine⟨⟨_,Tryz.func144,E5,E5⟩,?_⟩;intro A w v T sz n g c rest d pre g' r hA f c7 K L k M;unfold d6m at k;split at k;rotate_left
 .cases k
 split at k;rotate_left
 .cases k
 rename_i N;subst N;cases k;obtain⟨O,hn⟩:=M;obtain rfl:d=[]:=by
  have:=L.1;match d,this with
  | [],_=>rfl
 obtain⟨a,m,rfl,y,B,C,hl,E⟩:=K;rcases Ku n with F|F
 .subst F;have l:=AnyM.slices_Sort_int_none Tryz.sortInts a m w;refine l.mono ?_;rintro e P ⟨rfl,rfl⟩;refine⟨_,rfl,λh=>Eg,λ_=>rfl,⟨a,m,rfl,y,B,C,λi hi=>absurd hi E4,?_⟩,Fr.refl _ _ _⟩;rcases E with h|⟨b,o,vs,c8,rfl,hh,ho,h1,G⟩
  .exact .inl h
  .exact D5
 .rcases E with h|⟨b,o,vs,c8,rfl,hh,ho,h1,G⟩
  .omega
  have Q:b<w.heap.size:=(Kp.1 hh).1;have u:(AC.lst n g).length=n:=RT.lst_length AC n g;have H:∀i,i<n->o+i<vs.length:=λi hi=>E4;have R:∀i,i<n->vs[o+i]?=some (.int .i64 ((AC.lst n g).getD i 0)):=by intro i hi;have x:=H i hi;have I:=G i 0 (.int .i64 ((AC.lst n g).getD i 0)) (vs[o+i]) hi (by rw[O i hi];simp[RT.lst,hi];rfl) (by simp[Je x]);rw[Je x];generalize vs[o+i]=z at I⊢;cases I;rfl
  have S:Holds (Value.int .i64) w b o (AC.lst n g).toArray:=by
   intro t U;have J:t<n:=by simpa[u]using U
   refine⟨?_,?_⟩
   .simp only[World.cell?,hh,Option.isSome_none,Iz,List.getElem?_toArray];rw[R t J];simp[u,J]
   .simp[World.frozen?,hh]
  have l:=AnyM.slices_Sort_int Tryz.sortInts b o m (AC.lst n g) w S Q E4;rw[u,c3h]at l;refine l.mono ?_;rintro e P ⟨rfl,q,os,rfl⟩;have gy:(Nl (AC.lst n g)).length=n:=by rw[b0d,u]
  refine⟨_,rfl,λh=>Eg,λ_=>rfl,⟨_,m,rfl,y,B,C,λi hi=>⟨rfl,rfl⟩,.inr ⟨b,o,(putCells (Value.int .i64) o (Nl (AC.lst n g)).toArray vs.toArray).toList,c8,rfl,?_,?_,?_,?_⟩⟩,fr_pr (KA c8)⟩
  .first
   |(rw[d4r hh];done)
   |(rw[d4r hh];rfl)
  .simp[putCells];omega
  .intro v f;simp only[putCells,Array.toList_mapIdx,List.mem_mapIdx]at f;obtain⟨i,hi,rfl⟩:=f;split
   .rfl
   .exact h1 _ E6
  .intro i j s v hi hs f;have V:j=0:=by
    have:=(Jh.1 hs).1;have:(AC.row (Nl (AC.lst n g)) i).length=1:=rfl;omega
   subst V;have x:=H i hi;simp only[putCells,Array.toList_mapIdx,List.getElem?_mapIdx,Nat.mul_one,Mk,Je x,Kn,K6]at f;rw[Jf ⟨E4,by simp[gy];omega⟩]at f;subst f;have e:s=.int .i64 ((Nl (AC.lst n g)).getD i 0):=by have:(AC.row (Nl (AC.lst n g)) i)[0]?=some (.int .i64 ((Nl (AC.lst n g)).getD i 0)):=rfl;rw[this]at hs;exact(Kh hs).symm
   subst e;rw[show o+i-o=i from E4,Lx _ i G8];simp[gy,hi];exact .int
end
def b0t:AK
 | [.sl 2 n f _]=>some (n<=100000/\∀i,i<n->(f i).all SV.flat0=true,.sl 2 n f none)
 | [.con (.slice none 0 0)]=>some (True,.sl 2 0 (λ_=>[]) none)
 |_=>none
def c3p:Fam:=⟨Nat×(Nat->List SV),λ(n,f)=>[.sl 2 n f none],λ(n,f)=>n<=100000/\∀i,i<n->(f i).all SV.flat0=true,λ(n,f)=>.sl 2 n f none⟩
theorem c55:PF 146 b0t:=by
 refine conF {} ⟨E6,E6,E6⟩ c3p (λ_ _=>none) b0t ?_ ?_ Tryz.func146 E5 E5 E5 ?_
 .intro args pre s h hp;unfold b0t at h;split at h
  .rename_i n f c;cases h;exact C7
  .cases h;exact D6
  .cases h
 .exact C4
 .rintro⟨n,f⟩ ⟨hp,dq⟩;refine X0a _ ?_;(repeat' first|constructor|intro h)<;>refine Lm ?_
  all_goals(first
   |exact Ax
   |(intro i hi;simp;done)
   |skip)
def b0r:AK
 | [.sl 3 n f _]=>some (n<=100000/\∀i,i<n->(f i).all SV.flat0=true,.sl 3 n f none)
 | [.con (.slice none 0 0)]=>some (True,.sl 3 0 (λ_=>[]) none)
 |_=>none
def c3r:Fam:=⟨Nat×(Nat->List SV),λ(n,f)=>[.sl 3 n f none],λ(n,f)=>n<=100000/\∀i,i<n->(f i).all SV.flat0=true,λ(n,f)=>.sl 3 n f none⟩
theorem c3a:PF 148 b0r:=by
 refine conF {} ⟨E6,E6,E6⟩ c3r (λ_ _=>none) b0r ?_ ?_ Tryz.func148 E5 E5 E5 ?_
 .intro args pre s h hp;unfold b0r at h;split at h
  .rename_i n f c;cases h;exact C7
  .cases h;exact D6
  .cases h
 .exact C4
 .rintro⟨n,f⟩ ⟨hp,dq⟩;refine X0a _ ?_;(repeat' first|constructor|intro h)<;>refine Lm ?_
  all_goals(first
   |exact Ax
   |(intro i hi;simp;done)
   |skip)
def b1d:AK
 | [.sl 1 n f _]=>some (n<=100000/\∀i,i<n->(f i).all SV.flat0=true,.sl 1 n f none)
 | [.con (.slice none 0 0)]=>some (True,.sl 1 0 (λ_=>[]) none)
 |_=>none
def d0h:Fam:=⟨Nat×(Nat->List SV),λ(n,f)=>[.sl 1 n f none],λ(n,f)=>n<=100000/\∀i,i<n->(f i).all SV.flat0=true,λ(n,f)=>.sl 1 n f none⟩
theorem d07:PF 131 b1d:=by
 refine conF {} ⟨E6,E6,E6⟩ d0h (λ_ _=>none) b1d ?_ ?_ Tryz.func131 E5 E5 E5 ?_
 .intro args pre s h hp;unfold b1d at h;split at h
  .rename_i n f c;cases h;exact C7
  .cases h;exact D6
  .cases h
 .exact C4
 .rintro⟨n,f⟩ ⟨hp,dq⟩;refine X0a _ ?_;(repeat' first|constructor|intro h)<;>refine Lm ?_
  all_goals(first
   |exact Ax
   |(intro i hi;simp;done)
   |skip)
structure Ky where
 a:Cl
 b:Cl
 deriving DecidableEq
def Gl:RT Ky:=⟨6,λk=>[.int .i64 k.a.x,.int .i64 k.a.y,.int .u8 k.a.q,.int .i64 k.b.x,.int .i64 k.b.y,.int .u8 k.b.q],λl=>match l with
 | [.int _ a,.int _ b,.int _ c,.int _ d,.int _ e,.int _ f]=>⟨⟨a,b,c⟩,⟨d,e,f⟩⟩
 |_=>⟨⟨0,0,0⟩,⟨0,0,0⟩⟩,⟨⟨0,0,0⟩,⟨0,0,0⟩⟩,λ_=>rfl⟩
def LM(s:Sm):Ky:=⟨s.a,s.b⟩
theorem d6i(S:List Sm)(i:Nat):JZ S i=Gl.row (S.map LM) i:=by
 have:(S.map LM).getD i Gl.d=LM (S.getD i BG):=by simp only[Jd,K1];cases S[i]?<;>rfl
 unfold JZ RT.row;rw[this];rfl
def c7z(b:Bd)(S:List Sm)(K:List Ky):List Blk:=[.cells 188 [.int .i64 b.p.W,.int .i64 b.p.H,.sl 3 b.p.l.length (DZ b.p.l) none,.sl 3 b.pl.length (AE.row b.pl) none,.sl 3 b.im.length (Co.row b.im) none,.osl 2,.omp 3,.osl 4],
 .fam 156 [(229,2),(158,3),(3,1)] S.length none (λi=>JW (S.getD i BG)),
 .row 3 1 b.ht.length (AC.row b.ht) none,.pmap (.ints [.i64,.i64,.u8,.i64,.i64,.u8]) 1 (DP S) (DM S),.row 193 6 K.length (Gl.row K) none]
def f7k:List Blk->Option (Prop×Bd×List Sm×List Ky)
 | [.cells l [.int .i64 W,.int .i64 H,m,pl,o,.osl k1,.omp k2,.osl k3],.fam p r b s F,.row t u c d _,.pmap K k4 a BP,.row v w e g _]=>
   match NT m,AE.as pl,Co.as o with
   |some (n,f),some (h,f2),some (j,k)=>if(l=188/\k1=2/\k2=3/\k3=4/\t=3/\u=1)/\(K=.ints [.i64,.i64,.u8,.i64,.i64,.u8]/\k4=1/\v=193/\w=6)/\p=156/\r=[(229,2),(158,3),(3,1)]/\s=none then
    some (((ME n f/\n<=100000)/\AE.is h f2/\Co.is j k/\AC.is c d)/\Gl.is e g/\(∀q,a q=DP (LB b F) q)/\(∀q,a q=true->BP q=DM (LB b F) q)/\∀i,i<b->(F i).le (JW (TJ (F i))),
    ⟨⟨W,H,EK n f⟩,AE.lst h f2,Co.lst j k,AC.lst c d⟩,LB b F,Gl.lst e g)
    else none
   |_,_,_=>none
 |_=>none
theorem d93{own:List Blk}{q:Prop}{b:Bd}{S:List Sm}{K:List Ky}(h:f7k own=some (q,b,S,K))(d:q):own.length=5/\SQ 5 own (c7z b S K)/\b.p.l.length<=100000:=by
 unfold f7k at h;split at h;rotate_left
 .cases h
 rename_i T1 W H cr pl im k1 k2 k3 T4 Ts a bt F T2 z2 e g c1 KK k4 has BP T3 z3 j k c2;split at h;rotate_left
 .cases h
 rename_i n f n2 f2 n3 f3 h1 h2 h3;split at h;rotate_left
 .cases h
 rename_i m;obtain⟨⟨rfl,rfl,rfl,rfl,rfl,rfl⟩,⟨rfl,rfl,rfl,rfl⟩,rfl,rfl,rfl⟩:=m;simp only[Ir]at h;obtain⟨rfl,rfl,rfl,rfl⟩:=h;obtain⟨⟨q1,q2,q3,o⟩,r,s,t,u⟩:=d;refine⟨rfl,⟨⟨?_,?_⟩,⟨?_,?_,rfl,?_⟩,⟨?_,?_,?_,?_⟩,⟨?_,s,t⟩,⟨?_,?_,?_,?_⟩,Ji⟩,Hf⟩
 .exact Cf
 .exact Dp
 .rw[Jf ⟨rfl,rfl,rfl⟩];trivial
 .exact(b3i a F).symm
 .intro i c;have:(LB a F).getD i BG=TJ (F i):=by simp[LB,c]
  show (F i).le (JW ((LB a F).getD i BG));rw[this];exact u i c
 .exact Cf
 .exact(RT.lst_length AC e g).symm
 .exact Ji
 .exact RX (AC.row_lst o)
 .rw[Jf ⟨rfl,rfl,E7⟩];trivial
 .exact Cf
 .exact(RT.lst_length Gl j k).symm
 .exact Ji
 .exact RX (Gl.row_lst r)
def LP(b:Bd)(s:Sm):Sm:={s with ps:=GY (PE b.ht) s.ps,ls:=GY (Pm b.ht) s.ls,en:=Nl s.en}
def smSV(s:Sm):SV:=.agg [.int .i64 s.a.x,.int .i64 s.a.y,.int .u8 s.a.q,.int .i64 s.b.x,.int .i64 s.b.y,.int .u8 s.b.q,.sl 2 s.ps.length (Bo.row s.ps) (some s.ps.length),.sl 3 s.ls.length (BW.row s.ls) (some s.ls.length),.sl 1 s.en.length (AC.row s.en) (some s.en.length)]
def c92(b:Bd)(s:Sm):Prop:=(s.ps.length<=100000/\s.ls.length<=100000/\s.en.length<=100000)/\((∀x∈s.ps,0<=x.a/\x.a<b.ht.length)/\∀x∈s.ls,0<=x.a/\x.a<b.ht.length)/\(∀x∈s.ps,∀y∈s.ps,PE b.ht x=PE b.ht y->x=y)/\∀x∈s.ls,∀y∈s.ls,Pm b.ht x=Pm b.ht y->x=y
theorem c8u(b:Bd)(s:Sm):CJ (LP b s)=CJ s:=rfl
theorem b3j(b:Bd)(S:List Sm)(i:Nat):(S.set i (LP b (S.getD i BG))).map CJ=S.map CJ:=b25 _ _ _ (c8u b _)
theorem c9c(b:Bd)(S:List Sm)(i:Nat):∀q,DP S q=DP (S.set i (LP b (S.getD i BG))) q:=λq=>by rw[TZ,TZ,b3j]
theorem c9j(b:Bd)(S:List Sm)(i:Nat):∀q,DP S q=true->DM S q=DM (S.set i (LP b (S.getD i BG))) q:=λq _=>by rw[Vx,Vx,b3j]
theorem c9h(b:Bd)(S:List Sm)(i:Nat):∀j,j<S.length->JZ S j=JZ (S.set i (LP b (S.getD i BG))) j:=λj a=>c1t (b3j b S i).symm j a
theorem c9g(b:Bd)(S:List Sm)(i:Nat):S.length=(S.set i (LP b (S.getD i BG))).length:=E6
def b4h:HK:=λa own=>match a with
 | [.own 0 0,.fp b 1 i 0]=>(f7k own).map λq=>⟨q.1/\b=true/\i<q.2.2.1.length/\c92 q.2.1 (q.2.2.1.getD i BG),smSV (LP q.2.1 (q.2.2.1.getD i BG)),c7z q.2.1 (q.2.2.1.set i (LP q.2.1 (q.2.2.1.getD i BG))) q.2.2.2,[1]⟩
 |_=>none
def d9e:FamH:=⟨(Bd×List Sm×List Ky)×Nat,λ(_,i)=>[.own 0 0,.fp true 1 i 0],λ((b,S,K),_)=>c7z b S K,λ((b,S,_),i)=>b.p.l.length<=100000/\i<S.length/\c92 b (S.getD i BG),λ((b,S,_),i)=>smSV (LP b (S.getD i BG)),λ((b,S,K),i)=>c7z b (S.set i (LP b (S.getD i BG))) K,[1]⟩
theorem f24:HS 109 b4h:=by
 refine HX {l:=[(145,b2f),(147,b2d),(130,WH)],fs:=[(146,b0t),(148,b0r),(131,b1d)],fsok:=by simpa using⟨c55,c3a,d07⟩,x:=[(139,b9h),(141,c07),(144,d6m)],G:={g0:=[.focus 1],gx:=λ_=>[.unfocus 1]}} ⟨by simpa using⟨d4x,d2w,c0g⟩,by simpa using⟨f7e,g0u,xSortI⟩,E6⟩ d9e (λ_ _=>none) b4h ?_ ?_ ?_ Tryz.func109 E5 E5 E5 ?_
 .intro args own r h a;unfold b4h at h;split at h
  .rename_i ok i;simp only[Jk]at h;obtain⟨⟨q,k,S,K⟩,hx,rfl⟩:=h;obtain⟨m,n,o⟩:=d93 hx a.1;obtain⟨_,rfl,a⟩:=a;exact⟨((k,S,K),i),⟨Ec,Ec,Ji⟩,m,n,⟨o,a⟩,rfl,rfl,rfl⟩
  .cases h
 .exact C3
 .intro i;show 5<=5;decide
 .rintro⟨⟨b,S,K⟩,i⟩ μ ⟨hp0,c,⟨d,f,g⟩,⟨s,t⟩,u,v⟩;refine X0a _ ?_;(repeat' first|constructor|intro h)<;>refine Lm ?_
  all_goals(try simp only[RT.lst_row]at*)
  all_goals(first
   |exact⟨Ji,c⟩
   |exact⟨⟨⟨λ_=>Ji,Ji⟩,RT.is_row Bo _,d,s,u⟩,λ_ _=>rfl⟩
   |exact⟨⟨⟨λ_=>Ji,Ji⟩,RT.is_row BW _,f,t,v⟩,λ_ _=>rfl⟩
   |exact⟨RT.is_row AC _,g⟩
   |exact⟨d,λ_ _=>rfl⟩
   |exact⟨f,λ_ _=>rfl⟩
   |exact⟨g,λ_ _=>rfl⟩
   |exact d
   |exact f
   |exact g
   |exact A5
   |exact(Rc _ _).symm
   |exact Md some (Rc _ _).symm
   |exact(b0d _).symm
   |exact Md some (b0d _).symm
   |exact c9c _ _ _
   |exact c9j _ _ _
   |exact c9h _ _ _
   |exact c9g _ _ _
   |(intro j hj
     by_cases e:j=i
     .subst e;rw[Jf rfl,b19 c,Jf rfl];exact⟨rfl,(Rc _ _).symm,λ_ _=>rfl,(Rc _ _).symm,λ_ _=>rfl,(b0d _).symm,λ_ _=>rfl,Ji⟩
     .rw[Jg e,b19 c,Jg e];exact UC _)
   |skip)
def HB(q:List Int)(x:Cr):Bool:=decide (q=[x.c,x.e])
def EQ(l:List Cr)(q:List Int):Bool:=l.any (HB q)
def b4d:AK
 | [x]=>match NR x with
   |some (a,p)=>some (a/\∀c∈p.l,AD .u8 c.e,.mp (.ints [.i64,.u8]) false (EQ p.l) (λq=>[.bool (EQ p.l q)]))
   |none=>none
 |_=>none
def d9g:Fam:=⟨Pt,λp=>[IH p],λp=>p.l.length<=100000/\∀c∈p.l,AD .u8 c.e,λp=>.mp (.ints [.i64,.u8]) false (EQ p.l) (λq=>[.bool (EQ p.l q)])⟩
def f1c(p:Pt):Nat->Option Inv
 |3=>some {β:=Nat,ok:=λi=>i<=p.l.length,st:=λi=>⟨[⟨13,none,.int .i64 i⟩,⟨12,none,.int .i64 p.l.length⟩,⟨11,none,.sl 3 p.l.length (DZ p.l) none⟩,⟨3,none,.omp 1⟩,⟨2,none,.con (.map none)⟩],[.cells 29 [.int .i64 p.W,.int .i64 p.H,.sl 3 p.l.length (DZ p.l) none],.map (.ints [.i64,.u8]) false (EQ (p.l.take i)) (λ_=>[.bool true])]⟩,μ:=λi=>p.l.length-i}
 |_=>none
theorem b7a{l:List Cr}{i:Nat}(hi:i<l.length)(q:List Int):(decide (q=[(l.getD i d0).c,(l.getD i d0).e])||EQ (l.take i) q)=EQ (l.take (i+1)) q:=by
 have:l.take (i+1)=l.take i++[l.getD i d0]:=by rw[Mb];congr 1;simp[hi]
 unfold EQ;rw[this,Nt];simp[HB,Bool.or_comm]
theorem f2a:PS 160 b4d:=by
 refine con [] E6 d9g f1c b4d ?_ ?_ Tryz.func160 E5 E5 E5 ?_
 .intro args pre s h hp;unfold b4d at h;split at h
  .split at h
   .rename_i a p hx;cases h;exact D4
   .cases h
  .cases h
 .exact C4
 .rintro(p:Pt) hp;replace hp:p.l.length<=100000/\∀c∈p.l,AD .u8 c.e:=hp;refine X0a _ ?_;(repeat' first|constructor|intro h)<;>refine Lm ?_
  refine⟨(0:Nat),Js _,?_,?_⟩
  .refine X0a _ ?_;(repeat' first|constructor|intro h)<;>refine Lm ?_
   all_goals first|exact Aa|(intro q;first|rfl|(intro f;exact absurd f E6))|skip
  .intro i d;replace d:i<=p.l.length:=d;refine X0a _ ?_;(repeat' first|constructor|intro h)<;>refine Lm ?_
   all_goals(first
    |(have q:i<p.l.length:=by simpa using h
      first
      |exact As
      |refine⟨i+1,q,E4,?_⟩)
    |(have q:p.l.length<=i:=by simpa using h
      intro u;first
      |(rw[Lp q];done)
      |(rw[Lp q];intro w;rw[w]))
    |skip)
   all_goals refine X0a _ ?_;(repeat' first|constructor|intro h)<;>refine Lm ?_
   all_goals first|exact B5|(intro u;have q:i<p.l.length:=Ea;first|exact b7a q u|(intro _;cases decide (u=[(p.l.getD (i:Int).toNat d0).c,(p.l.getD (i:Int).toNat d0).e])<;>rfl))|skip
def EH(a b:Mv):Mv:=⟨Qn a.t a.x a.y b.t b.x b.y,WY a.t a.x a.y b.t b.x b.y,Uz a.t a.x a.y b.t b.x b.y⟩
def DT(k C:Int):Mv:=⟨keep (DV k C) (Oi k),keep (DV k C) (RB k C),keep (DV k C) (Rf k C)⟩
def DY(W H i e:Int):List Int:=[EG W H i e,FK W H i e]
def IJ(W H:Int)(has:List Int->Bool)(m:Mv)(i e:Int):Mv:=
 bif has (DY W H i e)then EH (DT (Tw W H (EG W H i e) (FK W H i e)) (UZ W H (EG W H i e) (FK W H i e))) m else m
def c0j:AK
 | [.int .i64 i,.int .u8 e,.rel 3 1 g 0 0,.rel 1 1 b 0 0,.rel 1 1 c 0 0]=>match g 0,b 0,c 0 with
   | [.int .i64 W,.int .i64 H,_],[.mp (.ints [.i64,.u8]) false a val],[.sl 3 m h _]=>
     some ((0<=e/\0<=i/\i<m)/\h=AE.row (AE.lst m h)/\(∀q,val q=[.bool (a q)])/\(∀x∈AE.lst m h,0<=x.t/\x.t<=255),
      .agg (AE.sv (IJ W H a ((AE.lst m h).getD i.toNat AE.d) i e)))
   |_,_,_=>none
 |_=>none
def d14:Fam:=⟨(Int×Int×Int×Int)×SV×(List Int->Bool)×List Mv×Option Nat,
 λ((i,e,W,H),b,a,L,c)=>[.int .i64 i,.int .u8 e,.rel 3 1 (λ_=>[.int .i64 W,.int .i64 H,b]) 0 0,.rel 1 1 (λ_=>[.mp (.ints [.i64,.u8]) false a (λq=>[.bool (a q)])]) 0 0,.rel 1 1 (λ_=>[.sl 3 L.length (AE.row L) c]) 0 0],
 λ((i,e,_,_),_,_,L,_)=>(0<=e/\0<=i/\i<L.length)/\∀x∈L,0<=x.t/\x.t<=255,
 λ((i,e,W,H),_,a,L,_)=>.agg (AE.sv (IJ W H a (L.getD i.toNat AE.d) i e))⟩
theorem f8x:PS 161 c0j:=by
 refine con [(157,TB),(162,b1q),(55,d6c),(83,VE)] (by simpa using⟨d8v,d0g,pMvOf,f87⟩) d14 (λ_ _=>none) c0j ?_ ?_ Tryz.func161 E5 E5 E5 ?_
 .intro args pre s h b;unfold c0j at h;split at h
  .split at h
   .rename_i i e g g2 g3 _ _ _ W H f a val m l c n o r;cases h;obtain⟨u,v,w,y⟩:=b;have z:val=λq=>[.bool (a q)]:=Ms w;refine⟨((i,e,W,H),f,a,AE.lst m l,c),?_,⟨by rw[RT.lst_length];exact u,y⟩,rfl⟩;simp only[d14,BN,SV.le2,SV.le1,SV.le0,Kt,Nx,and_true,RT.lst_length];refine⟨λj k=> ?_,λj k=> ?_,λj k=> ?_⟩
    .rw[show j=0 from E4,n]
    .rw[show j=0 from E4,o,z]
    .rw[show j=0 from E4,r,<-v]
   .cases h
  .cases h
 .exact Ci
 .rintro⟨⟨i,e,W,H⟩,f,a,L,c⟩ b;replace b:(0<=e/\0<=i/\i<L.length)/\∀x∈L,0<=x.t/\x.t<=255:=b;refine X0a _ ?_;(repeat' first|constructor|intro h)<;>refine Lm ?_
  all_goals(have A:0<=FK W H i e:=by(unfold FK;split<;>omega))
  all_goals(first
   |exact b.1.1
   |exact b.1.2
   |exact A
   |(intro q;rw[q];rfl)
   |(have q:a (DY W H i e)=false:=by simpa[DY]using h
     unfold IJ;rw[q,cond_false])
   |(have q:a (DY W H i e)=true:=by simpa[DY]using h
     unfold IJ;rw[q,cond_true];rfl)
   |(have m:L.getD i.toNat AE.d∈L:=by simp[show i.toNat<L.length from E4]
     refine⟨?_,b.2 _ m⟩;unfold keep Oi;split<;>omega)
   |(have m:L.getD i.toNat AE.d∈L:=by simp[Jd,show i.toNat<L.length from E4]
     refine⟨?_,b.2 _ m⟩;unfold keep Oi;grind)
   |skip)
theorem nv_le{W H i e:Int}(hs:AO W H=0)(c:0<=e)(h:AW W H i e=0):0<=AH W H i e/\AH W H i e<4*(W*H):=by
 have b:=b3f h;have hq:=d2f (X:=BT W H i) (Y:=BU W H i) (TN W H i).1 c;unfold AW at h;rw[Jf b]at h;split at h
 .rename_i d;unfold AH;rw[Jf b,Jf d];unfold QW;rw[Jf h];unfold LS at h;rw[Jf hs]at h;split at h
  .rename_i a;have:=f83 (X:=JG (BT W H i) (BU W H i) (BZ W H i) e) (Y:=JI (BT W H i) (BU W H i) (BZ W H i) e) hs a.2.1 a.2.2.1 a.2.2.2.1 a.2.2.2.2;omega
  .cases h
 .cases h
theorem c68{t x y u z w:Int}(b:0<=t)(c:0<=u):0<=Qn t x y u z w/\Qn t x y u z w<=255:=by
 unfold Qn keep;split
 .rename_i h;unfold GI at h;split at h
  .rename_i a;have:=cT_le b (Pz a.1).1 c (Pz a.2).1;omega
  .cases h
 .omega
theorem d6q(k C:Int):0<=(DT k C).t/\(DT k C).t<=255:=by simp only[DT];unfold keep Oi;grind
theorem c26{W H:Int}{has:List Int->Bool}{m:Mv}{i e:Int}(a:0<=m.t/\m.t<=255):0<=(IJ W H has m i e).t/\(IJ W H has m i e).t<=255:=by
 unfold IJ;cases has (DY W H i e)
 .exact a
 .exact c68 (d6q _ _).1 a.1
theorem b2p{l:List Bool}:∀{n:Nat},n<l.length->l.getD n false=false->(l.set n true).count false+1=l.count false:=by
 induction l with
 |nil=>intro n h;simp at h
 |cons b l c=>
  intro n h a;match n with
  |0=>
   simp at a;subst a;simp
  |n+1=>
   have:=c (n:=n) Ea (by simpa using a);cases b<;>simp[]<;>omega
theorem b3k{l:List Mv}{n:Nat}{m:Mv}{q:Mv->Prop}(a:∀x∈l,q x)(b:q m):∀x∈l.set n m,q x:=by
 intro x hx;rcases Mi hx with hx|rfl
 .exact a x hx
 .exact b
def vM(m:Mv):Prop:=0<=m.t/\CB m.t m.x m.y=0
def vC(c:Cl):Prop:=(-4096<=c.x/\c.x<=4096)/\(-4096<=c.y/\c.y<=4096)/\0<=c.q/\c.q<=3
def CL(m:Mv)(c:Cl):Cl:=⟨LI m.t m.x m.y c.x c.y,LV m.t m.x m.y c.x c.y,KS m.t c.q⟩
def AU(c:Cl)(e:Int):Cl:=⟨EE c.q e+c.x,EJ c.q e+c.y,EL c.q e⟩
theorem FW{m:Mv}(h:vM m):m.t=0\/m.t=1\/m.t=2\/m.t=3\/m.t=4\/m.t=5\/m.t=6\/m.t=7:=by
 obtain⟨h0,a⟩:=h;unfold CB at a;split at a
 .omega
 .omega
theorem KR{m:Mv}(h:vM m):(-16384<=m.x/\m.x<=16384)/\(-16384<=m.y/\m.y<=16384)/\(m.x+m.y)%2=0:=by
 obtain⟨h0,a⟩:=h;unfold CB at a;split at a
 .omega
 .omega
theorem EW{q:Int}(h:0<=q/\q<=3):q=0\/q=1\/q=2\/q=3:=E4
theorem GZ{e:Int}(h:0<=e/\e<3):e=0\/e=1\/e=2:=E4
def AL(t:Int)(a b:Int):Int×Int:=if t=0 then(a,b)else if t=1 then(-b,a)else if t=2 then(-a,-b)else if t=3 then(b,-a)else if t=4 then(-a,b)else if t=5 then(-b,-a)else if t=6 then(a,-b)else(b,a)
theorem b45{t a b:Int}(h:t=0\/t=1\/t=2\/t=3\/t=4\/t=5\/t=6\/t=7):JR t a b=(AL t a b).1/\JS t a b=(AL t a b).2:=by rcases h with rfl|rfl|rfl|rfl|rfl|rfl|rfl|rfl<;>simp[JR,JS,AL,tA,tB,tC,tD,tb]
theorem po_eq{m:Mv}{a b:Int}(h:vM m)(ha: -9000<=a/\a<=9000)(hb: -9000<=b/\b<=9000):OB m.t m.x m.y a b=(AL m.t a b).1+2*m.x/\NX m.t m.x m.y a b=(AL m.t a b).2+2*m.y:=by
 have h1:=KR h;have c:=@b45 m.t a b (FW h);have e:QE m.t m.x m.y a b=0:=by unfold QE;rw[Jf ⟨h.2,by unfold LK;rw[if_pos];omega⟩,if_pos];rw[c.1,c.2];unfold LK;rw[Jf];rcases FW h with e|e|e|e|e|e|e|e<;>simp only[AL,e]<;>simp<;>omega
 unfold OB NX keep;rw[Jf e,Jf e,c.1,c.2];exact⟨rfl,rfl⟩
theorem c8w{p:Int}(h:p%2=1):Qk p=(p-1)/2:=by unfold Qk;rw[h,Int.tdiv_eq_ediv];split<;>omega
def sq(t:Int)(X Y:Int):Int×Int:=if t=0 then(X,Y)else if t=1 then(-Y-1,X)else if t=2 then(-X-1,-Y-1)else if t=3 then(Y,-X-1)else if t=4 then(-X-1,Y)else if t=5 then(-Y-1,-X-1)else if t=6 then(X,-Y-1)else(Y,X)
theorem mv_sq{m:Mv}{X Y:Int}(h:vM m)(hx: -4200<=X/\X<=4200)(hy: -4200<=Y/\Y<=4200):LI m.t m.x m.y X Y=(sq m.t X Y).1+m.x/\LV m.t m.x m.y X Y=(sq m.t X Y).2+m.y:=by have a:=@po_eq m (2*X+1) (2*Y+1) h E4 E4;unfold LI LV;rw[a.1,a.2];rcases FW h with e|e|e|e|e|e|e|e<;>simp only[AL,sq,e]<;>simp<;>(rw[c8w E4,c8w E4];omega)
def tq(t:Int)(q:Int):Int:=tb (if t=0 then [0,1,2,3]else if t=1 then [1,2,3,0]else if t=2 then [2,3,0,1]else if t=3 then [3,0,1,2]else if t=4 then [0,3,2,1]else if t=5 then [1,0,3,2]else if t=6 then [2,1,0,3]else [3,2,1,0]) q.toNat
theorem mvQ_tq{t q:Int}(h:t=0\/t=1\/t=2\/t=3\/t=4\/t=5\/t=6\/t=7)(a:0<=q/\q<=3):KS t q=tq t q:=by rcases h with rfl|rfl|rfl|rfl|rfl|rfl|rfl|rfl<;>rcases EW a with rfl|rfl|rfl|rfl<;>rfl
theorem Il{m:Mv}{c:Cl}(h:vM m)(a:(-4200<=c.x/\c.x<=4200)/\(-4200<=c.y/\c.y<=4200)/\0<=c.q/\c.q<=3):CL m c=⟨(sq m.t c.x c.y).1+m.x,(sq m.t c.x c.y).2+m.y,tq m.t c.q⟩:=by have b:=mv_sq h a.1 a.2.1;unfold CL;rw[b.1,b.2,mvQ_tq (FW h) a.2.2]
theorem Vy{c:Cl}(h:vC c):(-4200<=c.x/\c.x<=4200)/\(-4200<=c.y/\c.y<=4200)/\0<=c.q/\c.q<=3:=by unfold vC at h;omega
theorem Cl.ext'{a b:Cl}(h1:a.x=b.x)(h2:a.y=b.y)(h3:a.q=b.q):a=b:=Ib
theorem d0r{m:Mv}{c d:Cl}(h:vM m)(g:vC c)(i:vC d)(e:CL m c=CL m d):c=d:=by
 rw[Il h (Vy g),Il h (Vy i)]at e;simp only[Cl.mk.injEq]at e;obtain⟨j,k,f⟩:=e;have l:c.q=d.q:=by rcases FW h with e|e|e|e|e|e|e|e<;>simp only[e,tq]at f<;>rcases EW g.2.2 with a|a|a|a<;>rcases EW i.2.2 with b|b|b|b<;>rw[a,b]at f⊢ <;>revert f<;>decide
 refine Cl.ext' ?_ ?_ l<;>(rcases FW h with e|e|e|e|e|e|e|e<;>simp only[e,sq]at j k<;>simp at j k<;>omega)
theorem f0x{a b:Mv}(h:GI a.t a.x a.y b.t b.x b.y=0):CB a.t a.x a.y=0/\CB b.t b.x b.y=0/\KL (cT a.t b.t) (JR b.t a.x a.y+b.x) (JS b.t a.x a.y+b.y)=0:=by
 unfold GI at h;split at h
 .rename_i e;exact⟨e.1,e.2,h⟩
 .cases h
def tt(t u:Int):Int:=tb (tbl u.toNat) t.toNat
where tbl:Nat->List Int
 |0=>[0,1,2,3,4,5,6,7]
 |1=>[1,2,3,0,5,6,7,4]
 |2=>[2,3,0,1,6,7,4,5]
 |3=>[3,0,1,2,7,4,5,6]
 |4=>[4,7,6,5,0,3,2,1]
 |5=>[5,4,7,6,1,0,3,2]
 |6=>[6,5,4,7,2,1,0,3]
 |_=>[7,6,5,4,3,2,1,0]
theorem f70{t u:Int}(h:t=0\/t=1\/t=2\/t=3\/t=4\/t=5\/t=6\/t=7)(k:u=0\/u=1\/u=2\/u=3\/u=4\/u=5\/u=6\/u=7):cT t u=tt t u:=by rcases h with rfl|rfl|rfl|rfl|rfl|rfl|rfl|rfl<;>rcases k with rfl|rfl|rfl|rfl|rfl|rfl|rfl|rfl<;>rfl
theorem To{a b:Mv}(j:0<=a.t)(k:0<=b.t)(h:GI a.t a.x a.y b.t b.x b.y=0):EH a b=⟨tt a.t b.t,(AL b.t a.x a.y).1+b.x,(AL b.t a.x a.y).2+b.y⟩/\vM a/\vM b/\vM (EH a b):=by
 obtain⟨l,m,f⟩:=f0x h;have g:vM a:=⟨j,l⟩
 have d:vM b:=⟨k,m⟩
 have e:=@b45 b.t a.x a.y (FW d);have n:EH a b=⟨cT a.t b.t,JR b.t a.x a.y+b.x,JS b.t a.x a.y+b.y⟩:=by simp[EH,Qn,WY,Uz,keep,h]
 rw[n];have i:=f70 (FW g) (FW d);refine⟨by rw[e.1,e.2,i],g,d,?_,?_⟩
 .show 0<=cT a.t b.t;rw[i];rcases FW g with e|e|e|e|e|e|e|e<;>rcases FW d with c|c|c|c|c|c|c|c<;>rw[e,c]<;>decide
 .unfold KL at f;split at f
  .assumption
  .cases f
theorem f1t{t q:Int}(h:t=0\/t=1\/t=2\/t=3\/t=4\/t=5\/t=6\/t=7)(a:0<=q/\q<=3):0<=tq t q/\tq t q<=3:=by rcases h with rfl|rfl|rfl|rfl|rfl|rfl|rfl|rfl<;>rcases EW a with rfl|rfl|rfl|rfl<;>decide
theorem tq_tt{t u q:Int}(h:t=0\/t=1\/t=2\/t=3\/t=4\/t=5\/t=6\/t=7)(k:u=0\/u=1\/u=2\/u=3\/u=4\/u=5\/u=6\/u=7)(a:0<=q/\q<=3):tq (tt t u) q=tq u (tq t q):=by rcases h with rfl|rfl|rfl|rfl|rfl|rfl|rfl|rfl<;>rcases k with rfl|rfl|rfl|rfl|rfl|rfl|rfl|rfl<;>rcases EW a with rfl|rfl|rfl|rfl<;>decide
theorem sq_tt{t u X Y x y:Int}(h:t=0\/t=1\/t=2\/t=3\/t=4\/t=5\/t=6\/t=7)(k:u=0\/u=1\/u=2\/u=3\/u=4\/u=5\/u=6\/u=7):(sq (tt t u) X Y).1+(AL u x y).1=(sq u ((sq t X Y).1+x) ((sq t X Y).2+y)).1/\(sq (tt t u) X Y).2+(AL u x y).2=(sq u ((sq t X Y).1+x) ((sq t X Y).2+y)).2:=by rcases h with rfl|rfl|rfl|rfl|rfl|rfl|rfl|rfl<;>rcases k with rfl|rfl|rfl|rfl|rfl|rfl|rfl|rfl<;>(simp[sq,tt,tt.tbl,tb,AL];try omega)
theorem b9f{a b:Mv}{c:Cl}(i:0<=a.t)(j:0<=b.t)(h:GI a.t a.x a.y b.t b.x b.y=0)(d:vC c)(k:vC (CL a c)):CL (EH a b) c=CL b (CL a c):=by obtain⟨e,f,g,l⟩:=To i j h;rw[Il g (Vy k),Il l (Vy d),Il f (Vy d),e];simp only[Cl.mk.injEq];have:=@sq_tt a.t b.t c.x c.y a.x a.y (FW f) (FW g);refine⟨E4,E4,tq_tt (FW f) (FW g) d.2.2⟩
theorem f6y{C:Int}(h: -4096<=C/\C<=4096):DT 1 C=⟨4,2*C,0⟩/\vM ⟨4,2*C,0⟩:=by
 refine⟨?_,(by show (0:Int)<=4;omega),?_⟩
 .simp[DT,keep,DV,h,Oi,RB,Rf]
 .exact Cj
theorem g0h{C:Int}(h: -4096<=C/\C<=4096):DT 2 C=⟨6,0,2*C⟩/\vM ⟨6,0,2*C⟩:=by
 refine⟨?_,(by show (0:Int)<=6;omega),?_⟩
 .simp[DT,keep,DV,h,Oi,RB,Rf]
 .exact Cj
theorem ref_u{C:Int}(h: -4096<=C/\C<=4096):DT 3 C=⟨5,C,C⟩/\vM ⟨5,C,C⟩:=by
 refine⟨?_,(by show (0:Int)<=5;omega),?_⟩
 .simp[DT,keep,DV,h,Oi,RB,Rf]
 .exact Cj
theorem ref_d{C:Int}(h: -4096<=C/\C<=4096):DT 4 C=⟨7,-C,C⟩/\vM ⟨7,-C,C⟩:=by
 refine⟨?_,(by show (0:Int)<=7;omega),?_⟩
 .simp[DT,keep,DV,h,Oi,RB,Rf]
 .exact Cj
theorem b86{c:Cl}{e:Int}(b:0<=e/\e<3)(a:(-300<=c.x/\c.x<=300)/\(-300<=c.y/\c.y<=300)/\0<=c.q/\c.q<=3):
 vM (DT (CW c.q e) (DA c.x c.y c.q e))/\CL (DT (CW c.q e) (DA c.x c.y c.q e)) c=AU c e/\CL (DT (CW c.q e) (DA c.x c.y c.q e)) (AU c e)=c/\
 ((-700<=(DT (CW c.q e) (DA c.x c.y c.q e)).x/\(DT (CW c.q e) (DA c.x c.y c.q e)).x<=700)/\ -700<=(DT (CW c.q e) (DA c.x c.y c.q e)).y/\(DT (CW c.q e) (DA c.x c.y c.q e)).y<=700):=by
 obtain⟨X,Y,Q⟩:=c;simp only at a;rcases EW a.2.2 with rfl|rfl|rfl|rfl<;>rcases GZ b with rfl|rfl|rfl<;>
 .simp[CW,DA,IC,JU,tb];first
   |obtain⟨r,vm⟩:=@f6y X E4
    rw[r];refine⟨vm,?_,?_,?_⟩<;>first|exact Bc|(rw[Il vm Fv];simp[AU,sq,tq,EE,EJ,EL,tb];done)|exact Ad
   |obtain⟨r,vm⟩:=@f6y (X+1) E4
    rw[r];refine⟨vm,?_,?_,?_⟩<;>first|exact Bc|(rw[Il vm Fv];simp[AU,sq,tq,EE,EJ,EL,tb];done)|exact Ad
   |obtain⟨r,vm⟩:=@g0h Y E4
    rw[r];refine⟨vm,?_,?_,?_⟩<;>first|exact Bc|(rw[Il vm Fv];simp[AU,sq,tq,EE,EJ,EL,tb];done)|exact Ad
   |obtain⟨r,vm⟩:=@g0h (Y+1) E4
    rw[r];refine⟨vm,?_,?_,?_⟩<;>first|exact Bc|(rw[Il vm Fv];simp[AU,sq,tq,EE,EJ,EL,tb];done)|exact Ad
   |obtain⟨r,vm⟩:=@ref_u (X+Y+1) E4
    rw[r];refine⟨vm,?_,?_,?_⟩<;>first|exact Bc|(rw[Il vm Fv];simp[AU,sq,tq,EE,EJ,EL,tb];done)|exact Ad
   |obtain⟨r,vm⟩:=@ref_d (Y-X) E4
    rw[r];refine⟨vm,?_,?_,?_⟩<;>first|exact Bc|(rw[Il vm Fv];simp[AU,sq,tq,EE,EJ,EL,tb];done)|exact Ad
   |skip
structure BS where
 out:List Mv
 kn:List Bool
 wt:List Int
def LG(W H:Int)(has:List Int->Bool)(s:BS)(i e:Int):Option BS:=
 if AW W H i e=0 then
  let n:=(AH W H i e).toNat
  let m:=IJ W H has (s.out.getD i.toNat AE.d) i e
  let a:BS:=bif s.kn.getD n false then s else⟨s.out.set n m,s.kn.set n true,s.wt++[AH W H i e]⟩
  if a.out.getD n AE.d=m then some a else none
 else some s
def MM(W H:Int)(has:List Int->Bool)(i:Int):List Int->BS->Option BS
 | [],s=>some s
 |e::l,s=>(LG W H has s i e).bind (MM W H has i l)
def IL(W H:Int)(has:List Int->Bool):Nat->BS->Option (List Mv)
 |0,s=>match s.wt with
  | []=>some s.out
  |_::_=>none
 |f+1,s=>match s.wt with
  | []=>some s.out
  |i::r=>(MM W H has i [0,1,2] ⟨s.out,s.kn,r⟩).bind (IL W H has f)
def FV(p:Pt):Nat:=(4*p.W*p.H).toNat
def FQ(n:Nat):BS:=⟨List.replicate n AE.d,(List.replicate n false).set 0 true,[0]⟩
def NF(p:Pt):Option (List Mv):=IL p.W p.H (EQ p.l) (2*FV p+1) (FQ (FV p))
def IY(p:Pt):Int:=if(NF p).isSome then 0 else 11
def Ao(p:Pt):List Mv:=(NF p).getD []
def hRel:HK:=λb own=>match b,own with
 | [x],[]=>match NR x with
   |some (a,p)=>some ⟨a/\(∀c∈p.l,AD .u8 c.e)/\BO p=0,.tup [.osl 0,.int .i64 (IY p)],[.row 31 3 (Ao p).length (AE.row (Ao p)) none],[]⟩
   |none=>none
 |_,_=>none
def FRel:FamH:=⟨Pt,λp=>[IH p],λ_=>[],λp=>p.l.length<=100000/\(∀c∈p.l,AD .u8 c.e)/\BO p=0,λp=>.tup [.osl 0,.int .i64 (IY p)],λp=>[.row 31 3 (Ao p).length (AE.row (Ao p)) none],[]⟩
def c4t(t:Nat)(T:TypeId)(sz:Nat)(st:St):List Ghost:=match CD t st.ρ with
 |some e=>match e.sv with
  |.osl k=>[.sel [k]]
  |_=>[.nil t T sz,.sel [st.own.length]]
 |none=>[]
def KE(s:BS):Nat:=s.kn.count false
def lens(p:Pt)(s:BS):Prop:=s.out.length=FV p/\s.kn.length=FV p/\(∀i∈s.wt,0<=i/\i<FV p)/\∀m∈s.out,0<=m.t/\m.t<=255
def ownR(p:Pt)(s:BS):List Blk:=[.cells 29 [.int .i64 p.W,.int .i64 p.H,.sl 3 p.l.length (DZ p.l) none],.cells 249 [.mp (.ints [.i64,.u8]) false (EQ p.l) (λq=>[.bool (EQ p.l q)])],.row 31 3 s.out.length (AE.row s.out) none,.cells 53 [.osl 2],.row 4 1 s.kn.length (GR.row s.kn) none,.row 3 1 s.wt.length (AC.row s.wt) none]
def IRel(p:Pt):Nat->Option Inv
 |7=>some {β:=BS×Nat,ok:=λ(s,f)=>lens p s/\NF p=IL p.W p.H (EQ p.l) f s/\2*KE s+s.wt.length<=f/\f<=2*FV p+1,st:=λ(s,_)=>⟨[⟨8,none,.osl 5⟩,⟨7,none,.clo 161 [.own 0 0,.own 1 0,.own 3 0]⟩,⟨6,none,.osl 4⟩,⟨5,none,.own 3 0⟩,⟨3,none,.int .i64 0⟩,⟨2,none,.con (.slice none 0 0)⟩,⟨1,none,.own 0 0⟩],ownR p s⟩,μ:=λ(_,f)=>f,sub:=λ(_,f)=>some fun
   |11=>some {β:=BS×Nat×Int,ok:=λ(s,e,i)=>e<=3/\lens p s/\(0<=i/\i<FV p)/\NF p=(MM p.W p.H (EQ p.l) i ([0,1,2].drop e) s).bind (IL p.W p.H (EQ p.l) (f-1))/\2*KE s+s.wt.length<=f-1/\0<f/\f<=2*FV p+1,st:=λ(s,e,i)=>⟨[⟨35,none,.int .u8 e⟩,⟨9,none,.int .i64 i⟩,⟨8,none,.osl 5⟩,⟨7,none,.clo 161 [.own 0 0,.own 1 0,.own 3 0]⟩,⟨6,none,.osl 4⟩,⟨5,none,.own 3 0⟩,⟨3,none,.int .i64 0⟩,⟨2,none,.con (.slice none 0 0)⟩,⟨1,none,.own 0 0⟩],ownR p s⟩,μ:=λ(_,e,_)=>3-e}
   |_=>none}
 |_=>none
theorem c0k{W H:Int}{has:List Int->Bool}{f:Nat}{s:BS}(h:s.wt=[]):IL W H has f s=some s.out:=by cases f<;>simp[IL,h]
theorem b8u{W H:Int}{has:List Int->Bool}{f:Nat}{s:BS}{i:Int}{r:List Int}(h:s.wt=i::r):IL W H has (f+1) s=(MM W H has i [0,1,2] ⟨s.out,s.kn,r⟩).bind (IL W H has f):=by simp[IL,h]
theorem b8b{W H:Int}{has:List Int->Bool}{i:Int}{e:Nat}{s:BS}(h:e<3):MM W H has i ([0,1,2].drop e) s=(LG W H has s i e).bind (MM W H has i ([0,1,2].drop (e+1))):=by have:e=0\/e=1\/e=2:=E4;rcases this with rfl|rfl|rfl<;>rfl
theorem mvEq(a b:Mv):(decide (a.t=b.t)&&(decide (a.x=b.x)&&(decide (a.y=b.y)&&true)))=decide (a=b):=by cases a;cases b;simp[Bool.decide_and]
theorem b20{W H:Int}{has:List Int->Bool}{s:BS}{i e:Int}(h:AW W H i e=0)(a:s.kn.getD (AH W H i e).toNat false=true):
 LG W H has s i e=if s.out.getD (AH W H i e).toNat AE.d=IJ W H has (s.out.getD i.toNat AE.d) i e then some s else none:=by
 simp only[LG,Jf h,a,Nf]
theorem c2c{W H:Int}{has:List Int->Bool}{s:BS}{i e:Int}(h:AW W H i e=0)(a:s.kn.getD (AH W H i e).toNat false=false)(b:(AH W H i e).toNat<s.out.length):
 LG W H has s i e=some ⟨s.out.set (AH W H i e).toNat (IJ W H has (s.out.getD i.toNat AE.d) i e),s.kn.set (AH W H i e).toNat true,s.wt++[AH W H i e]⟩:=by
 simp only[LG,Jf h,a,cond_false];rw[Jf];rw[Jd,Kr b];rfl
theorem WS{α:Type}(n i:Nat)(d:α):(List.replicate n d).getD i d=d:=by rw[Jd,List.getElem?_replicate];split<;>rfl
theorem ON(n i:Nat)(h:0<n):((List.replicate n false).set 0 true).getD i false=decide (i=0):=by
 match n,i with
 |n+1,0=>rfl
 |n+1,i+1=>simpa[List.replicate_succ]using WS n i false
theorem b2q{p:Pt}(h:AO p.W p.H=0):4<=FV p/\FV p<=1024/\EP p.W p.H=FV p:=by have z:=QZ h;unfold FV EP;rw[Jf h];omega
theorem pRel:HS 117 hRel:=by
 refine HX {l:=[(160,b4d),(103,VQ),(110,Tx),(161,c0j)],G:={gx:=c4t 2 31 3}} ⟨by simpa using⟨f2a,d2y,b1f,f8x⟩,E6,E6⟩ FRel IRel hRel ?_ ?_ ?_ Tryz.func117 E5 E5 E5 ?_
 .intro args own r h u;unfold hRel at h;split at h
  .split at h
   .rename_i a p hx;cases h;exact⟨p,⟨(OA hx u.1).1,Ji⟩,rfl,Ji,⟨(OA hx u.1).2,u.2⟩,rfl,rfl,rfl⟩
   .cases h
  .cases h
 .exact C4
 .intro i;exact Js _
 .rintro(p:Pt) μ u;replace u:p.l.length<=100000/\(∀c∈p.l,AD .u8 c.e)/\BO p=0:=u;have hs:=(GC u.2.2).1;obtain⟨n1,n2,M⟩:=b2q hs;refine X0a _ ?_;(repeat' first|constructor|intro h)<;>refine Lm ?_
  all_goals(try simp only[M,CR])
  all_goals(first
   |exact⟨⟨EC _,u.1⟩,u.2.1⟩
   |omega
   |exact Aw
   |skip)
  refine⟨(FQ (FV p),2*FV p+1),⟨⟨?_,?_,?_,?_⟩,rfl,?_,Jm _⟩,?_,?_⟩
  .simp[FQ]
  .simp[FQ]
  .intro i o;simp[FQ]at o;omega
  .intro m N;have:m=AE.d:=(List.mem_replicate.1 N).2;rw[this];decide
  .have:KE (FQ (FV p))<=FV p:=by
    unfold KE;refine Lk List.count_le_length ?_;simp[FQ]
   show 2*KE (FQ (FV p))+1<=_;omega
  .refine X0a _ ?_;(repeat' first|constructor|intro h)<;>refine Lm ?_
   all_goals(first
    |exact Aa
    |exact Bu
    |(simp[FQ];done)
    |(intro i o;show _=AE.sv (List.getD _ i AE.d);rw[show (FQ (FV p)).out=List.replicate (FV p) AE.d from rfl,WS];rfl)
    |(intro i o
      show DW (decide (i=0)) _ _=GR.sv (List.getD _ i false);rw[show (FQ (FV p)).kn=(List.replicate (FV p) false).set 0 true from rfl,ON _ _ E4];generalize decide (i=0)=b;cases b<;>rfl)
    |(intro i o;(have:i=0:=E4);subst this;rfl)
    |skip)
  .rintro⟨s,f⟩ ⟨k,hr,v,y⟩;replace k:lens p s:=k;replace hr:NF p=IL p.W p.H (EQ p.l) f s:=hr;replace v:2*KE s+s.wt.length<=f:=v;replace y:f<=2*FV p+1:=y;refine X0a _ ?_;(repeat' first|constructor|intro h)<;>refine Lm ?_
   all_goals(first
    |(have C:0<s.wt.length:=by simpa using h
      first
      |omega
      |exact C
      |(obtain⟨i,r,A⟩:∃i r,s.wt=i::r:=by(cases e:s.wt with|nil=>(rw[e]at C;exact absurd C E7)|cons i r=>exact⟨i,r,rfl⟩)
        have o:=k.2.2.1 i (by rw[A];simp);have be:s.wt.length=r.length+1:=by rw[A];rfl
        obtain⟨g,rfl⟩:∃g,f=g+1:=⟨f-1,E4⟩
        refine⟨((⟨s.out,s.kn,r⟩:BS),(0:Nat),i),⟨Js 3,⟨k.1,k.2.1,λx hx=>k.2.2.1 x (by rw[A];exact K8 _ hx),k.2.2.2⟩,o,hr.trans (b8u A),?_,Nat.succ_pos g,?_⟩,?_,?_⟩))
    |(have C:s.wt=[]:=by(have:s.wt.length=0:=Ea);exact La this
      have F:NF p=some s.out:=by rw[hr,c0k C]
      first
      |(unfold Ao;rw[F];rfl)
      |(intro i o;unfold Ao;rw[F];rfl)
      |(unfold IY;rw[F];rfl))
    |skip)
   .show 2*KE s+r.length<=g;omega
   .show g+1<=_;omega
   .refine X0a _ ?_;(repeat' first|constructor|intro h)<;>refine Lm ?_
    all_goals(first
     |exact Aa
     |exact Bu
     |omega
     |(rw[A];rfl)
     |(intro j I;rw[A];exact d8h AC i r j)
     |skip)
   .rintro⟨s,e,i⟩ ⟨J,k,o,hr,v,-,y⟩;have:g+1-1=g:=rfl;replace J:e<=3:=J;replace k:lens p s:=k;replace o:0<=i/\i<FV p:=o;replace hr:NF p=(MM p.W p.H (EQ p.l) i ([0,1,2].drop e) s).bind (IL p.W p.H (EQ p.l) g):=hr;replace v:2*KE s+s.wt.length<=g:=v;replace y:g+1<=2*FV p+1:=y;have K:=@nv_le p.W p.H i e hs E4;have hc4:(FV p:Int)=4*(p.W*p.H):=by
     have z:=QZ hs;unfold FV;omega
    have O:=k.1;have P:=k.2.1;refine X0a _ ?_;(repeat' first|constructor|intro h)<;>refine Lm ?_
    all_goals(try simp only[RT.lst_row]at*)
    all_goals(first
     |omega
     |(have e3:(e:Int)<3:=Kq ‹decide (_<(3:Int))=true›
       simp only[AD];omega)
     |exact⟨⟨E4,o.1,E4⟩,rfl,λ_=>rfl,k.2.2.2⟩
     |(have q:AW p.W p.H i e=0:=by simpa using(by assumption:(!decide (AW p.W p.H i e=0))=false)
       have Q:=K q;first
       |(constructor<;>omega)
       |omega
       |(show _<_;omega)
       |(refine⟨E4,?_⟩;show (_+1)*8<=_;omega))
     |skip)
    all_goals(first
     |exact⟨⟨E4,o.1,E4⟩,Ji,λ_=>Ji,k.2.2.2⟩
     |(have e3:e=3:=by(have q:¬(e:Int)<3:=M4 ‹decide (_<(3:Int))=false›;omega)
       subst e3;refine⟨(s,g),⟨k,hr,v,by show g<=_;omega⟩,Nat.lt_succ_self g,?_⟩)
     |(have e3:e<3:=by(have q:(e:Int)<3:=Kq ‹decide (_<(3:Int))=true›;omega)
       have q:¬AW p.W p.H i e=0:=by simpa using ‹(!decide (AW p.W p.H i e=0))=true›
       have h1:LG p.W p.H (EQ p.l) s i e=some s:=by unfold LG;rw[if_neg q]
       refine⟨(s,e+1,i),⟨e3,k,o,Hj,v,Nat.succ_pos g,y⟩,Gt,?_⟩)
     |(exfalso;simp at h;done)
     |(have e3:e<3:=by(have q:(e:Int)<3:=Kq ‹decide (_<(3:Int))=true›;omega)
       have q:AW p.W p.H i e=0:=Ic;have E:s.kn.getD (AH p.W p.H i e).toNat false=true:=by simpa[GR]using ‹(!s.kn.getD (AH p.W p.H i e).toNat GR.d)=false›
       first
       |(have R:(!decide (s.out.getD (AH p.W p.H i e).toNat AE.d=IJ p.W p.H (EQ p.l) (s.out.getD i.toNat AE.d) i e))=true:=by rw[<-mvEq];exact h
         have L:NF p=none:=by rw[hr,b8b e3,b20 q E,Jg (by simpa using R)];rfl
         first
         |(unfold Ao;rw[L];rfl)
         |(unfold IY;rw[L];rfl))
       |(have S:(!decide (s.out.getD (AH p.W p.H i e).toNat AE.d=IJ p.W p.H (EQ p.l) (s.out.getD i.toNat AE.d) i e))=false:=by rw[<-mvEq];exact h
         have h1:LG p.W p.H (EQ p.l) s i e=some s:=by rw[b20 q E,Jf (by simpa using S)]
         refine⟨(s,e+1,i),⟨e3,k,o,Hj,v,Nat.succ_pos g,y⟩,Gt,?_⟩))
     |(have e3:e<3:=by(have q:(e:Int)<3:=Kq ‹decide (_<(3:Int))=true›;omega)
       have q:AW p.W p.H i e=0:=Ic;have Q:=K q;have E:s.kn.getD (AH p.W p.H i e).toNat false=false:=by simpa[GR]using ‹(!s.kn.getD (AH p.W p.H i e).toNat GR.d)=true›
       have h1:=c2c (has:=EQ p.l) q E E4;have hc:=b2p (n:=(AH p.W p.H i e).toNat) E4 E;have T:0<=(s.out.getD i.toNat AE.d).t/\(s.out.getD i.toNat AE.d).t<=255:=k.2.2.2 _ (by simp[show i.toNat<s.out.length from E4]);refine⟨(⟨s.out.set (AH p.W p.H i e).toNat (IJ p.W p.H (EQ p.l) (s.out.getD i.toNat AE.d) i e),s.kn.set (AH p.W p.H i e).toNat true,s.wt++[AH p.W p.H i e]⟩,e+1,i),⟨e3,⟨by simp[O],by simp[P],λx hx=> ?_,b3k k.2.2.2 (c26 T)⟩,o,Hj,?_,Nat.succ_pos g,y⟩,Gt,?_⟩)
     |skip)
    all_goals(first
     |(rcases Ka.1 (by assumption:_∈_++_)with hx|hx
       .exact k.2.2.1 _ hx
       .rw[K4.1 hx];omega)
     |(show 2*(s.kn.set _ true).count false+(s.wt++[_]).length<=g
       unfold KE at v;simp only[J5];omega)
     |skip)
    all_goals refine X0a _ ?_;(repeat' first|constructor|intro h)<;>refine Lm ?_
    all_goals(first
     |exact Aa
     |exact Bu
     |omega
     |(simp;done)
     |(intro j I
       by_cases w:j=(AH p.W p.H i e).toNat
       .rw[K2 w,b14 AE E4 w];rfl
       .rw[K5 w,b3g AE w];rfl)
     |(intro j I
       by_cases w:j=(AH p.W p.H i e).toNat
       .rw[K2 w,b14 GR E4 w];rfl
       .rw[K5 w,b3g GR w];rfl)
     |(intro j I
       by_cases q:j<s.wt.length
       .rw[Jf q,b0a AC q]
       .rw[Jg q,show j=s.wt.length from E4,L8,b09];rfl)
     |skip)
theorem d44{W H:Int}{has:List Int->Bool}{s b:BS}{i e:Int}(h:LG W H has s i e=some b)(a:∀m∈s.out,0<=m.t/\m.t<=255):b.out.length=s.out.length/\∀m∈b.out,0<=m.t/\m.t<=255:=by
 unfold LG at h;split at h
 .simp only at h;split at h
  .cases h;cases s.kn.getD (AH W H i e).toNat false with
   |true=>exact⟨rfl,a⟩
   |false=>
    simp only[cond_false];refine⟨E6,b3k a (c26 ?_)⟩;rw[Jd];cases hg:s.out[i.toNat]? with
    |none=>decide
    |some m=>exact a m (Jj hg)
  .cases h
 .cases h;exact⟨rfl,a⟩
theorem c2j{W H:Int}{has:List Int->Bool}{i:Int}:∀(l:List Int) {s f:BS},MM W H has i l s=some f->(∀m∈s.out,0<=m.t/\m.t<=255)->f.out.length=s.out.length/\∀m∈f.out,0<=m.t/\m.t<=255
 | [],s,f,h,g=>by cases h;exact⟨rfl,g⟩
 |e::l,s,f,h,g=>by simp only[MM,Jn]at h;obtain⟨s1,j,k⟩:=h;obtain⟨a,b⟩:=d44 j g;obtain⟨c,d⟩:=c2j l k b;exact⟨c.trans a,d⟩
theorem d2t{W H:Int}{has:List Int->Bool}:∀(f:Nat) {s:BS} {l:List Mv},IL W H has f s=some l->(∀m∈s.out,0<=m.t/\m.t<=255)->l.length=s.out.length/\∀m∈l,0<=m.t/\m.t<=255
 |0,s,l,h,e=>by
  simp only[IL]at h;split at h<;>cases h
  exact⟨rfl,e⟩
 |f+1,s,l,h,e=>by
  simp only[IL]at h;split at h
  .cases h;exact⟨rfl,e⟩
  .simp only[Jn]at h;obtain⟨s1,g,i⟩:=h;obtain⟨a,b⟩:=c2j _ g (s:=⟨s.out,s.kn,_⟩) e;obtain⟨c,d⟩:=d2t f i b;exact⟨c.trans a,d⟩
theorem c08(p:Pt):(IY p=0->(Ao p).length=FV p)/\(∀m∈Ao p,0<=m.t/\m.t<=255)/\(Ao p).length<=FV p:=by
 unfold IY Ao;cases h:NF p with
 |none=>simp
 |some l=>
  have:=d2t _ h (λm a=>by have:m=AE.d:=(List.mem_replicate.1 a).2;rw[this];decide)
  simp only[FQ,List.length_replicate]at this;exact⟨λ_=>this.1,this.2,Nat.le_of_eq this.1⟩
def WC(r m:Mv):Int:=GI m.t m.x m.y r.t r.x r.y
def SH(W H:Int)(m:Mv)(i:Nat):Int:=GG m.t m.x m.y (BT W H i) (BU W H i) (BZ W H i)
def imC(W H:Int)(m:Mv)(i:Nat):Cl:=⟨keep (SH W H m i) (LI m.t m.x m.y (BT W H i) (BU W H i)),keep (SH W H m i) (LV m.t m.x m.y (BT W H i) (BU W H i)),keep (SH W H m i) (KS m.t (BZ W H i))⟩
def JK(p:Pt)(r:Mv)(i:Nat):Int:=if WC r ((Ao p).getD i AE.d)=0 then SH p.W p.H (EH ((Ao p).getD i AE.d) r) i else WC r ((Ao p).getD i AE.d)
def CF(p:Pt)(r:Mv):Int:=if BO p=0 then(if CB r.t r.x r.y=0 then(if IY p=0 then MC (JK p r) (Ao p).length 0 else IY p)else 1)else BO p
def BR(p:Pt)(r:Mv):List Mv:=if CF p r=0 then(Ao p).map λm=>EH m r else []
def CA(p:Pt)(r:Mv):List Cl:=if CF p r=0 then(List.range (Ao p).length).map λi=>imC p.W p.H (EH ((Ao p).getD i AE.d) r) i else []
def KN(p:Pt)(r:Mv)(j:Nat):Mv:=EH ((Ao p).getD j AE.d) r
def WW(p:Pt)(r:Mv)(j:Nat):Cl:=imC p.W p.H (KN p r j) j
theorem Sp{p:Pt}{r:Mv}(h:CF p r=0):(BR p r).length=(Ao p).length/\∀j,j<(Ao p).length->(BR p r).getD j AE.d=KN p r j:=by unfold BR;rw[Jf h];refine⟨E6,λj a=> ?_⟩;simp[a,KN]
theorem b0j{p:Pt}{r:Mv}(h:CF p r=0):(CA p r).length=(Ao p).length/\∀j,j<(Ao p).length->(CA p r).getD j Co.d=WW p r j:=by unfold CA;rw[Jf h];refine⟨E6,λj a=> ?_⟩;simp[a,WW,KN]
theorem b27{p:Pt}{r:Mv}(h:CF p r≠0):BR p r=[]/\CA p r=[]:=by unfold BR CA;rw[Jg h,Jg h];exact⟨rfl,rfl⟩
theorem HL(p:Pt):(⟨p.W,p.H,EK p.l.length (DZ p.l)⟩:Pt)=p:=by rw[CR]
def MQ(r:Mv):SV:=.agg [.int .u8 r.t,.int .i64 r.x,.int .i64 r.y]
def Uo:AK
 | [x,.agg [.int .u8 t,.int .i64 a,.int .i64 b]]=>match NR x with
   |some (q,p)=>some ((q/\∀c∈p.l,AD .u8 c.e)/\0<=t/\t<=255,.tup [.sl 3 (BR p ⟨t,a,b⟩).length (AE.row (BR p ⟨t,a,b⟩)) none,.sl 3 (CA p ⟨t,a,b⟩).length (Co.row (CA p ⟨t,a,b⟩)) none,.int .i64 (CF p ⟨t,a,b⟩)])
   |none=>none
 |_=>none
def FBoth:Fam:=⟨Pt×Mv,λ(p,r)=>[IH p,MQ r],λ(p,r)=>(p.l.length<=100000/\∀c∈p.l,AD .u8 c.e)/\0<=r.t/\r.t<=255,λ(p,r)=>.tup [.sl 3 (BR p r).length (AE.row (BR p r)) none,.sl 3 (CA p r).length (Co.row (CA p r)) none,.int .i64 (CF p r)]⟩
def IBoth:Pt×Mv->Nat->Option Inv
 |(p,r),11=>some {β:=Nat,ok:=λi=>i<=(Ao p).length/\MC (JK p r) (Ao p).length 0=MC (JK p r) ((Ao p).length-i) i,st:=λi=>⟨[⟨36,none,.int .i64 i⟩,⟨35,none,.int .i64 (Ao p).length⟩,⟨34,none,.osl 2⟩,⟨10,none,.osl 3⟩,⟨8,none,.osl 2⟩,⟨6,none,.int .i64 0⟩,⟨5,none,.con (.slice none 0 0)⟩,⟨4,none,.con (.slice none 0 0)⟩,⟨3,none,.own 1 0⟩,⟨2,none,.own 0 0⟩],[.cells 29 [.int .i64 p.W,.int .i64 p.H,.sl 3 p.l.length (DZ p.l) none],.cells 31 [.int .u8 r.t,.int .i64 r.x,.int .i64 r.y],.row 31 3 (Ao p).length (λj=>AE.sv (upto (KN p r) (λj=>(Ao p).getD j AE.d) i j)) none,.row 39 3 (Ao p).length (λj=>Co.sv (upto (WW p r) (λ_=>Co.d) i j)) none]⟩,μ:=λi=>(Ao p).length-i}
 |_,_=>none
theorem f5k:PS 82 Uo:=by
 refine NU {l:=[(116,YS),(17,OI),(118,VZ),(83,VE),(119,VG)],h:=[(117,hRel)]} ⟨by simpa using⟨d35,QO,b26,f87,b56⟩,E6,by simpa using pRel⟩ FBoth IBoth Uo ?_ ?_ Tryz.func82 E5 E5 E5 ?_
 .intro args pre s h f;unfold Uo at h;split at h
  .rename_i x t a b;split at h
   .rename_i q p hx;cases h;exact⟨(p,⟨t,a,b⟩),⟨(OA hx f.1.1).1,Hk,Ji⟩,⟨⟨(OA hx f.1.1).2,f.1.2⟩,f.2⟩,rfl⟩
   .cases h
  .cases h
 .exact C3
 .rintro⟨p,r⟩ f;replace f:(p.l.length<=100000/\∀c∈p.l,AD .u8 c.e)/\0<=r.t/\r.t<=255:=f;have C:BO p≠0->CF p r=BO p:=λh=>by unfold CF;rw[if_neg h]
  have E:BO p=0->CB r.t r.x r.y≠0->CF p r=1:=λh g=>by unfold CF;rw[if_pos h,if_neg g]
  have F:BO p=0->CB r.t r.x r.y=0->IY p≠0->CF p r=IY p:=λh g u=>by unfold CF;rw[if_pos h,if_pos g,if_neg u]
  have G:BO p=0->CB r.t r.x r.y=0->IY p=0->CF p r=MC (JK p r) (Ao p).length 0:=λh g u=>by unfold CF;rw[if_pos h,if_pos g,if_pos u]
  have b5:CF p r≠0->(BR p r).length=0/\(CA p r).length=0:=λh=>by rw[(b27 h).1,(b27 h).2];exact⟨rfl,rfl⟩
  have v:=c08 p;refine X0a _ ?_;(repeat' first|constructor|intro h)<;>refine Lm ?_
  all_goals(try simp only[CR]at*)
  all_goals(first
   |exact⟨⟨EC _,f.1.1⟩,f.1.2⟩
   |exact f.2
   |(have o:BO p=0:=by simpa using ‹(!decide (BO p=0))=false›
     exact⟨⟨EC _,f.1.1⟩,f.1.2,o⟩)
   |(fail_if_success (with_reducible refine Exists.intro ?_ ?_)
     have h1:=b5;have N:=C;have O:=E;have P:=F;clear C E F G b5 v;simp only[Ip,Iv]at*;first
     |(have e:=N E8;first|exact Bx)
     |(have e:=O E8 E8;first|exact(h1 (by rw[e];decide)).1|exact(h1 (by rw[e];decide)).2|exact e.symm)
     |(have e:=P E8 E8 E8;first|exact Bx))
   |skip)
  all_goals(
   have o:BO p=0:=Kq (by simpa using ‹(!decide (BO ⟨p.W,p.H,p.l⟩=0))=false›);have Q:CB r.t r.x r.y=0:=Kq (by simpa using ‹(!decide (CB r.t r.x r.y=0))=false›);have e2:IY p=0:=Kq (by simpa using ‹(!decide (IY ⟨p.W,p.H,p.l⟩=0))=false›);have hs:=(GC o).1;obtain⟨n1,n2,n3⟩:=b2q hs;have B:=v.1 e2;have I:=G o Q e2)
  .have:(Ao ⟨p.W,p.H,p.l⟩).length=FV p:=B;refine⟨E4,E4,SA E5 E4 E4,E4⟩
  refine⟨(0:Nat),⟨Js _,rfl⟩,?_,?_⟩
  .refine X0a _ ?_;(repeat' first|constructor|intro h)<;>refine Lm ?_
   all_goals(first
    |exact Aa
    |(intro j k;show _=AE.sv (upto _ _ 0 j);rw[b6e];rfl)
    |(intro j k;show _=Co.sv (upto _ _ 0 j);rw[b6e];rfl)
    |skip)
  .intro i n;replace n:i<=(Ao p).length/\MC (JK p r) (Ao p).length 0=MC (JK p r) ((Ao p).length-i) i:=n;have J:0<=((Ao p).getD i AE.d).t/\((Ao p).getD i AE.d).t<=255:=by
    rw[Jd];cases hg:(Ao p)[i]? with
    |none=>decide
    |some m=>exact v.2.1 m (Jj hg)
   have K:=c68 (x:=((Ao p).getD i AE.d).x) (y:=((Ao p).getD i AE.d).y) (z:=r.x) (w:=r.y) J.1 f.2.1;have R:=TN p.W p.H i;have L:i<(Ao p).length->JK p r i≠0->CF p r=JK p r i:=λh g=>by rw[I,n.2,show (Ao p).length-i=((Ao p).length-(i+1))+1 from E4];simp only[MC];rw[Jg g]
   have S:i<(Ao p).length->JK p r i=0->MC (JK p r) (Ao p).length 0=MC (JK p r) ((Ao p).length-(i+1)) (i+1):=λh g=>by rw[n.2,show (Ao p).length-i=((Ao p).length-(i+1))+1 from E4];simp only[MC];rw[Jf g]
   have T:¬i<(Ao p).length->CF p r=0:=λh=>by rw[I,n.2,show (Ao p).length-i=0 from E4];rfl
   have U:WC r ((Ao p).getD i AE.d)≠0->JK p r i=WC r ((Ao p).getD i AE.d):=λh=>by unfold JK;rw[if_neg h]
   have M:WC r ((Ao p).getD i AE.d)=0->JK p r i=SH p.W p.H (KN p r i) i:=λh=>by unfold JK;rw[if_pos h];rfl
   refine X0a _ ?_;(repeat' first|constructor|intro h)<;>refine Lm ?_
   all_goals(try simp only[In,c0v _ _ (Jm i),decide_true,Nf,Ip]at*)
   all_goals(try(replace b6:i<(Ao p).length:=E4))
   all_goals(first
    |omega
    |exact⟨J,f.2⟩
    |exact⟨K.1,K.2,R.1⟩
    |exact A9
    |(show i<(Ao p).length;omega)
    |(have e:=U E8
      have e2:=L E4 (by rw[e];assumption);first
      |exact Bq)
    |(have e:=M E8
      have e2:=L E4 (by rw[e];assumption);first
      |exact Bq)
    |(have e:=M E8
      refine⟨i+1,⟨E4,S E4 (by rw[e];assumption)⟩,E4,?_⟩)
    |(have e:=T E4
      first
      |exact e.symm
      |exact(Sp e).1.symm
      |exact(b0j e).1.symm
      |(intro j k;show AE.sv _=AE.sv _;rw[b8i _ _ E4,(Sp e).2 j E4])
      |(intro j k;show Co.sv _=Co.sv _;rw[b8i _ _ E4,(b0j e).2 j E4]))
    |skip)
   all_goals refine X0a _ ?_;(repeat' first|constructor|intro h)<;>refine Lm ?_
   all_goals(try simp only[]at*)
   all_goals(first
    |exact At
    |(intro j k;exact b65 AE (λ_ _=>rfl) (λ_ _=>rfl) (KN p r) _ i j)
    |(intro j k;exact b65 Co (λ_ _=>rfl) (λ_ _=>rfl) (WW p r) _ i j)
    |skip)
def AJ(W H i:Int):Cl:=⟨BT W H i,BU W H i,BZ W H i⟩
theorem Ho{W H:Int}(h:AO W H=0):1<=W/\1<=H/\W<=256/\H<=256/\W*H<=256:=by
 unfold AO at h;split at h
 .assumption
 .cases h
theorem ce_ok{W H i:Int}(hs:AO W H=0)(a:0<=i)(h:i<4*W*H):KU W H i=0:=by simp[KU,hs,SY,a,h]
theorem JL{W H i:Int}(hs:AO W H=0)(a:0<=i)(h:i<4*W*H):AJ W H i=⟨i/4%W,i/4/W,i%4⟩:=by have e:=ce_ok hs a h;simp[AJ,BT,BU,BZ,e]
theorem JJ{W H i:Int}(hs:AO W H=0)(a:0<=i)(h:i<4*W*H):
 (0<=(AJ W H i).x/\(AJ W H i).x<W)/\(0<=(AJ W H i).y/\(AJ W H i).y<H)/\(0<=(AJ W H i).q/\(AJ W H i).q<=3)/\i=4*((AJ W H i).y*W+(AJ W H i).x)+(AJ W H i).q:=by
 have hw:=Ho hs;rw[JL hs a h];simp only;have a1:=My (i/4) (show W≠0 from E4);have a2:=Mr (i/4) (show 0<W from E4);have a3:0<=i/4/W:=Int.ediv_nonneg E4 E4;have a4:i/4/W<H:=by
  apply Int.ediv_lt_of_lt_mul E4;have:4*W*H=4*(H*W):=by rw[M7,Int.mul_comm W H]
  omega
 have a5:=Mt (i/4) W;have a6:i/4/W*W=W*(i/4/W):=Int.mul_comm _ _;omega
theorem g04{W H x y q:Int}(hs:AO W H=0)(hx:0<=x/\x<W)(c:0<=y/\y<H)(hq:0<=q/\q<=3):0<=4*(y*W+x)+q/\4*(y*W+x)+q<4*W*H/\AJ W H (4*(y*W+x)+q)=⟨x,y,q⟩:=by
 have hw:=Ho hs;have b0:0<=y*W:=Int.mul_nonneg c.1 E4;have b1:y*W+x<W*H:=by have:(y+1)*W<=H*W:=Int.mul_le_mul_of_nonneg_right E4 E4;rw[Int.add_mul,Int.one_mul,Int.mul_comm H W]at this;omega
 have b2:4*W*H=4*(W*H):=M7 _ _ _;have a:0<=4*(y*W+x)+q:=E4;have b:4*(y*W+x)+q<4*W*H:=E4;refine⟨a,b,?_⟩;rw[JL hs a b];have d:(4*(y*W+x)+q)/4=y*W+x:=E4;rw[d];refine Cl.ext' ?_ ?_ ?_
 .show (y*W+x)%W=x;rw[Int.add_comm,Int.add_mul_emod_self_right];exact Int.emod_eq_of_lt hx.1 hx.2
 .show (y*W+x)/W=y;rw[Int.add_comm,Int.add_mul_ediv_right _ _ E4,Int.ediv_eq_zero_of_lt hx.1 hx.2];omega
 .show (4*(y*W+x)+q)%4=q;omega
theorem MW{c:Cl}{e:Int}(a:0<=c.q/\c.q<=3)(b:0<=e/\e<3):(c.x-1<=(AU c e).x/\(AU c e).x<=c.x+1)/\(c.y-1<=(AU c e).y/\(AU c e).y<=c.y+1)/\(0<=(AU c e).q/\(AU c e).q<=3):=by obtain⟨X,Y,Q⟩:=c;simp only at a;rcases EW a with rfl|rfl|rfl|rfl<;>rcases GZ b with rfl|rfl|rfl<;>(simp[AU,EE,EJ,EL,tb];try omega)
theorem VS{c:Cl}{e:Int}(a:0<=c.q/\c.q<=3)(b:0<=e/\e<3):AU (AU c e) e=c:=by obtain⟨X,Y,Q⟩:=c;simp only at a;rcases EW a with rfl|rfl|rfl|rfl<;>rcases GZ b with rfl|rfl|rfl<;>(simp[AU,EE,EJ,EL,tb];try omega)
theorem f51{W H i e:Int}(hs:AO W H=0)(a:0<=i)(h:i<4*W*H)(b:0<=e/\e<3):GF (AJ W H i).x (AJ W H i).y (AJ W H i).q e=0:=by have hw:=Ho hs;have c:=JJ hs a h;have d:=MW c.2.2.1 b;simp only[AU]at d;unfold GF;rw[Jf ⟨Gu,E4⟩,Jf];unfold DQ;rw[Jf];omega
theorem Vp{W H i e:Int}(hs:AO W H=0)(b:0<=i)(h:i<4*W*H)(d:0<=e/\e<3):
 (AW W H i e=0↔(0<=(AU (AJ W H i) e).x/\(AU (AJ W H i) e).x<W)/\0<=(AU (AJ W H i) e).y/\(AU (AJ W H i) e).y<H)/\
 (AW W H i e=0->AH W H i e=4*((AU (AJ W H i) e).y*W+(AU (AJ W H i) e).x)+(AU (AJ W H i) e).q):=by
 have hw:=Ho hs;have l:=JJ hs b h;have hb:=MW l.2.2.1 d;have f:=ce_ok hs b h;have m:=f51 hs b h d;have a:GF (BT W H i) (BU W H i) (BZ W H i) e=0:=m;have g:JG (BT W H i) (BU W H i) (BZ W H i) e=(AU (AJ W H i) e).x:=by simp[JG,a,AU,AJ]
 have j:JI (BT W H i) (BU W H i) (BZ W H i) e=(AU (AJ W H i) e).y:=by simp[JI,a,AU,AJ]
 have k:ID (BT W H i) (BU W H i) (BZ W H i) e=(AU (AJ W H i) e).q:=by simp[ID,a,AU,AJ]
 have n:AW W H i e=LS W H (AU (AJ W H i) e).x (AU (AJ W H i) e).y (AU (AJ W H i) e).q:=by simp[AW,f,a,g,j,k]
 have o:AH W H i e=QW W H (AU (AJ W H i) e).x (AU (AJ W H i) e).y (AU (AJ W H i) e).q:=by simp[AH,f,a,g,j,k]
 rw[n,o];have r:DQ (AU (AJ W H i) e).x (AU (AJ W H i) e).y (AU (AJ W H i) e).q=0:=Gu;refine⟨?_,λh=>by simp[QW,h]⟩;unfold LS;rw[Jf hs];constructor
 .intro h;split at h
  .rename_i c;exact⟨⟨c.2.1,c.2.2.1⟩,c.2.2.2⟩
  .cases h
 .intro h;rw[Jf ⟨r,h.1.1,h.1.2,h.2⟩]
theorem GL{W H i e:Int}(hs:AO W H=0)(b:0<=i)(h:i<4*W*H)(c:0<=e/\e<3)(d:AW W H i e=0):
 (0<=AH W H i e/\AH W H i e<4*W*H)/\AJ W H (AH W H i e)=AU (AJ W H i) e:=by
 have j:=JJ hs b h;have k:=MW j.2.2.1 c;have f:=Vp hs b h c;have g:=f.1.1 d;have a:=g04 hs g.1 g.2 k.2.2;rw[f.2 d];exact⟨⟨a.1,a.2.1⟩,a.2.2⟩
theorem Qy{W H i e:Int}(hs:AO W H=0)(d:0<=i)(h:i<4*W*H)(b:0<=e/\e<3)(g:AW W H i e=0):
 AW W H (AH W H i e) e=0/\AH W H (AH W H i e) e=i:=by
 have a:=JJ hs d h;obtain⟨⟨j,k⟩,l⟩:=GL hs d h b g;have c:=Vp hs j k b;rw[l,VS a.2.2.1 b]at c;have f:AW W H (AH W H i e) e=0:=c.1.2 ⟨a.1,a.2.1⟩;exact⟨f,by rw[c.2 f];exact a.2.2.2.symm⟩
theorem c1y{W H i e:Int}(hs:AO W H=0)(b:0<=i)(h:i<4*W*H)(c:0<=e/\e<3)(a:AW W H i e=0):DY W H (AH W H i e) e=DY W H i e:=by obtain⟨d,f⟩:=Qy hs b h c a;simp[DY,EG,FK,a,d,f,Int.min_comm]
theorem d3v{c:Cl}{e:Int}(a:0<=c.q/\c.q<=3)(b:0<=e/\e<3):CW (AU c e).q e=CW c.q e/\DA (AU c e).x (AU c e).y (AU c e).q e=DA c.x c.y c.q e:=by obtain⟨X,Y,Q⟩:=c;simp only at a;rcases EW a with rfl|rfl|rfl|rfl<;>rcases GZ b with rfl|rfl|rfl<;>(simp[AU,EE,EJ,EL,tb,CW,DA,IC,JU];try omega)
theorem sl_eq{W H i e:Int}(hs:AO W H=0)(b:0<=i)(h:i<4*W*H)(f:0<=e/\e<3)(g:AW W H i e=0)(j:EG W H i e=i):
 Tw W H i e=CW (AJ W H i).q e/\UZ W H i e=DA (AJ W H i).x (AJ W H i).y (AJ W H i).q e:=by
 have hw:=Ho hs;have a:=JJ hs b h;have c:Pn W H i e=0:=by simp[Pn,hs,g,j,FK]
 have d:=JL hs b h;have k:Tp W H i e=0:=by simp only[Tp,c,Kt,NG];rw[d]at a;simp only at a;unfold RL;rw[Jf ⟨Gu,E4⟩,Jf];unfold DV;rw[Jf];have l:=EW a.2.2.1;rcases l with q|q|q|q<;>rcases GZ f with rfl|rfl|rfl<;>(rw[q];simp[CW,DA,IC,JU,tb];omega)
 rw[d];simp[Tw,UZ,c,k,keep]
theorem b2h{W H i e:Int}{has:List Int->Bool}{m:Mv}(hs:AO W H=0)(d:0<=i)(h:i<4*W*H)(b:0<=e/\e<3)(a:AW W H i e=0):
 IJ W H has m i e=bif has (DY W H i e)then EH (DT (CW (AJ W H i).q e) (DA (AJ W H i).x (AJ W H i).y (AJ W H i).q e)) m else m:=by
 have k:=JJ hs d h;obtain⟨⟨l,n⟩,o⟩:=GL hs d h b a;obtain⟨g,p⟩:=Qy hs d h b a;have j:=d3v k.2.2.1 b;have r:FK W H i e=e:=by simp[FK,a]
 have c:Tw W H (EG W H i e) e=CW (AJ W H i).q e/\UZ W H (EG W H i e) e=DA (AJ W H i).x (AJ W H i).y (AJ W H i).q e:=by
  by_cases hl:i<=AH W H i e
  .have f:EG W H i e=i:=by simp only[EG,a,Kt];omega
   rw[f];exact sl_eq hs d h b a f
  .have f:EG W H i e=AH W H i e:=by simp only[EG,a,Kt];omega
   have s:EG W H (AH W H i e) e=AH W H i e:=by simp only[EG,g,Kt,p];omega
   rw[f];have:=sl_eq hs l n b g s;rw[o]at this;rw[this.1,this.2,j.1,j.2];exact⟨rfl,rfl⟩
 unfold IJ;rw[r,c.1,c.2]
def near(m:Mv)(c:Cl)(K:Int):Prop:=(-K<=(CL m c).x/\(CL m c).x<=K)/\ -K<=(CL m c).y/\(CL m c).y<=K
theorem f8p{W H:Int}{c:Cl}(hs:AO W H=0)(hx:0<=c.x/\c.x<W)(hy:0<=c.y/\c.y<H)(hq:0<=c.q/\c.q<=3):vC c:=by have:=Ho hs;unfold vC;omega
theorem f2z{t a b:Int}(ha: -700<=a/\a<=700)(hb: -700<=b/\b<=700):(-700<=(AL t a b).1/\(AL t a b).1<=700)/\ -700<=(AL t a b).2/\(AL t a b).2<=700:=by
 unfold AL;repeat' split
 all_goals(simp only;omega)
theorem d1w{t a b:Int}(h:(a+b)%2=0):((AL t a b).1+(AL t a b).2)%2=0:=by
 unfold AL;repeat' split
 all_goals(simp only;omega)
theorem c6v{m:Mv}{c:Cl}{K:Int}(b:vM m)(hc:(0<=c.x/\c.x<=300)/\(0<=c.y/\c.y<=300)/\0<=c.q/\c.q<=3)(a:near m c K)(hK:0<=K/\K<=2000):(-2400<=m.x/\m.x<=2400)/\ -2400<=m.y/\m.y<=2400:=by unfold near at a;rw[Il b E4]at a;simp only at a;rcases FW b with e|e|e|e|e|e|e|e<;>simp only[sq,e]at a<;>simp at a<;>omega
theorem c2f{m:Mv}{c:Cl}{e K:Int}(i:0<=e/\e<3)(j:(0<=c.x/\c.x<=300)/\(0<=c.y/\c.y<=300)/\0<=c.q/\c.q<=3)(a:vM m)(v:near m c K)(w:0<=K/\K<=2000):
 vM (EH (DT (CW c.q e) (DA c.x c.y c.q e)) m)/\CL (EH (DT (CW c.q e) (DA c.x c.y c.q e)) m) (AU c e)=CL m c/\CL (EH (DT (CW c.q e) (DA c.x c.y c.q e)) m) c=CL m (AU c e):=by
 obtain⟨f,k,l,n⟩:=@b86 c e i E4;generalize DT (CW c.q e) (DA c.x c.y c.q e)=r at*;have hb:=MW j.2.2 i;have n9:=c6v a j v w;have o:=@b45 m.t r.x r.y (FW a);have hll:=@f2z m.t r.x r.y n.1 n.2;have hlp:=@d1w m.t r.x r.y (KR f).2.2;have c8:=(KR a).2.2;have g:GI r.t r.x r.y m.t m.x m.y=0:=by unfold GI;rw[Jf ⟨f.2,a.2⟩,o.1,o.2];unfold KL;rw[Jf];unfold CB;rw[Jf];refine⟨?_,E4,E4,E4,E4,E4⟩;rw[f70 (FW f) (FW a)];rcases FW f with b|b|b|b|b|b|b|b<;>rcases FW a with d|d|d|d|d|d|d|d<;>rw[b,d]<;>decide
 have s:vC c:=Fw;have u:vC (AU c e):=Fw;refine⟨(To f.1 a.1 g).2.2.2,?_,?_⟩
 .rw[b9f f.1 a.1 g u (by rw[l];exact s),l]
 .rw[b9f f.1 a.1 g s (by rw[k];exact u),k]
theorem c73{m:Mv}{c:Cl}{e K:Int}(d:0<=e/\e<3)(f:(0<=c.x/\c.x<=300)/\(0<=c.y/\c.y<=300)/\0<=c.q/\c.q<=3)(b:vM m)(a:near m c K):near m (AU c e) (K+1):=by have hb:=MW f.2.2 d;unfold near at*;rw[Il b E4]at a⊢;simp only at a⊢;rcases FW b with e|e|e|e|e|e|e|e<;>simp only[sq,e]at a⊢ <;>simp at a⊢ <;>omega
theorem NM{α:Type}{T:List α}{i j:Nat}{x d:α}(h:i<T.length):(T.set i x).getD j d=if j=i then x else T.getD j d:=by
 by_cases e:j=i
 .subst e;simp[h]
 .simp[Ju (Ne.symm e),e]
theorem Xz:∀l:List Bool,l.count true+l.count false=l.length
 | []=>rfl
 |a::r=>by have:=Xz r;cases a<;>simp<;>omega
section
variable{W H:Int}{has:List Int->Bool}
def AF(W H:Int):Nat:=(4*W*H).toNat
theorem CQ(hs:AO W H=0):(AF W H:Int)=4*W*H/\AF W H<=1024/\4<=AF W H:=by have h:=Ho hs;have e:4*W*H=4*(W*H):=M7 _ _ _;have:0<W*H:=Int.mul_pos E4 E4;unfold AF;omega
def Te(W H:Int)(has:List Int->Bool)(s:BS)(i e:Int):Prop:=
 AW W H i e=0->s.kn.getD (AH W H i e).toNat false=true/\s.out.getD (AH W H i e).toNat AE.d=IJ W H has (s.out.getD i.toNat AE.d) i e
structure More (s s':BS):Prop where
 kn:∀j:Nat,s.kn.getD j false=true->s'.kn.getD j false=true/\s'.out.getD j AE.d=s.out.getD j AE.d
 wt:∀i∈s.wt,i∈s'.wt
 new:∀j:Nat,s'.kn.getD j false=true->s.kn.getD j false=true\/(j:Int)∈s'.wt
theorem More.refl(s:BS):More s s:=⟨λ_ h=>⟨h,rfl⟩,λ_ h=>h,λ_ h=>.inl h⟩
theorem More.trans{a b c:BS}(h:More a b)(k:More b c):More a c:=
 ⟨λj d=>⟨(k.kn j (h.kn j d).1).1,(k.kn j (h.kn j d).1).2.trans (h.kn j d).2⟩,λi g=>k.wt i (h.wt i g),λj d=>by
   rcases k.new j d with e|e
   .rcases h.new j e with f|f
    .exact .inl f
    .exact .inr (k.wt _ f)
   .exact .inr e⟩
theorem Te.more{s c:BS}{i e:Int}(_:0<=i)(d:s.kn.getD i.toNat false=true)(h:Te W H has s i e)(m:More s c):Te W H has c i e:=by intro f;obtain⟨g,j⟩:=h f;have a:=m.kn _ g;have b:=m.kn _ d;exact⟨a.1,by rw[a.2,b.2,j]⟩
structure BI (W H:Int) (s:BS):Prop where
 ol:s.out.length=AF W H
 kl:s.kn.length=AF W H
 wt:∀i∈s.wt,(0<=i/\i<4*W*H)/\s.kn.getD i.toNat false=true
 kn:∀j:Nat,s.kn.getD j false=true->vM (s.out.getD j AE.d)/\near (s.out.getD j AE.d) (AJ W H j) (s.kn.count true)
theorem BI.lt{s:BS}(h:BI W H s){j:Nat}(a:s.kn.getD j false=true):j<AF W H:=by rw[<-h.kl];apply Classical.byContradiction;intro hc;rw[Jd,Lr E4]at a;cases a
theorem b9s{m:Mv}{c:Cl}{K L:Int}(h:near m c K)(hl:K<=L):near m c L:=by unfold near at*;omega
theorem PP{i:Int}(hs:AO W H=0)(a:0<=i)(h:i<4*W*H):(0<=(AJ W H i).x/\(AJ W H i).x<=300)/\(0<=(AJ W H i).y/\(AJ W H i).y<=300)/\0<=(AJ W H i).q/\(AJ W H i).q<=3:=by have:=JJ hs a h;have:=Ho hs;omega
theorem b7t{s f:BS}{i e:Int}(hs:AO W H=0)(h:BI W H s)(r:0<=i)(hi:i<4*W*H)(t:s.kn.getD i.toNat false=true)(g:0<=e/\e<3)(b:LG W H has s i e=some f):
 BI W H f/\More s f/\Te W H has f i e:=by
 unfold LG at b;split at b;rotate_left
 .rename_i k;cases b;exact⟨h,.refl _,λe=>absurd e k⟩
 rename_i k;obtain⟨⟨z,A⟩,B⟩:=GL hs r hi g k;have hN:=CQ hs;have gw:(AH W H i e).toNat<AF W H:=E4;have w:=PP hs r hi;simp only at b;by_cases u:s.kn.getD (AH W H i e).toNat false=true
 .rw[u]at b;simp only[Nf]at b;split at b
  .rename_i C;cases b;exact⟨h,.refl _,λ_=>⟨u,C⟩⟩
  .cases b
 .have o:s.kn.getD (AH W H i e).toNat false=false:=by simpa using u
  rw[o]at b;simp only[cond_false]at b;rw[Jf (by rw[NM G9,Jf rfl])]at b;cases b;have E:i.toNat≠(AH W H i e).toNat:=λv=>by rw[v,o]at t;cases t
  have F:(s.kn.set (AH W H i e).toNat true).count true=s.kn.count true+1:=by have c1:=b2p (l:=s.kn) (n:=(AH W H i e).toNat) Fe o;have c2:=Xz s.kn;have G:=Xz (s.kn.set (AH W H i e).toNat true);rw[L5]at G;omega
  have hcN:s.kn.count true<=1024:=by have:=Xz s.kn;have:=h.kl;omega
  obtain⟨vm,q⟩:=h.kn _ t;rw[show ((i.toNat:Nat):Int)=i from E4]at q;have x:=b2h (has:=has) (m:=s.out.getD i.toNat AE.d) hs r hi g k;have y:vM (IJ W H has (s.out.getD i.toNat AE.d) i e)/\near (IJ W H has (s.out.getD i.toNat AE.d) i e) (AJ W H (AH W H i e)) (s.kn.count true+1):=by
   rw[B];cases hc:has (DY W H i e)with
   |false=>
    rw[x,hc];exact⟨vm,c73 g w vm q⟩
   |true=>
    rw[x,hc];simp only[Nf];obtain⟨g1,I,_⟩:=c2f g w vm q E4;refine⟨g1,?_⟩;unfold near at q⊢;rw[I];omega
  refine⟨⟨by simpa using h.ol,by simpa using h.kl,λj a=> ?_,λj a=> ?_⟩,⟨λj a=> ?_,λj a=>List.mem_append_left _ a,λj a=> ?_⟩,λ_=>⟨?_,?_⟩⟩
  .rcases Ka.1 a with a|a
   .refine⟨(h.wt j a).1,?_⟩;rw[NM Fe];split
    .rfl
    .exact(h.wt j a).2
   .rw[K4.1 a];refine⟨⟨z,A⟩,?_⟩;rw[NM Fe,Jf rfl]
  .rw[NM Fe]at a;rw[NM G9,F];by_cases c:j=(AH W H i e).toNat
   .rw[Jf c,show (j:Int)=AH W H i e from E4];exact⟨y.1,b9s y.2 E4⟩
   .rw[Jg c]at a⊢;exact⟨(h.kn j a).1,b9s (h.kn j a).2 E4⟩
  .have c:j≠(AH W H i e).toNat:=λv=>by rw[v,o]at a;cases a
   rw[NM Fe,Jg c,NM G9,Jg c];exact⟨a,rfl⟩
  .rw[NM Fe]at a;by_cases c:j=(AH W H i e).toNat
   .exact .inr (List.mem_append_right _ (K4.2 E4))
   .rw[Jg c]at a;exact .inl a
  .rw[NM Fe,Jf rfl]
  .rw[NM G9,Jf rfl,NM G9,Jg E]
theorem b36{i:Int}(hs:AO W H=0)(c:0<=i)(hi:i<4*W*H):∀(l:List Int) {s a:BS},(∀e∈l,0<=e/\e<3)->BI W H s->s.kn.getD i.toNat false=true->MM W H has i l s=some a->
 BI W H a/\More s a/\∀e∈l,Te W H has a i e
 | [],s,a,_,h,_,b=>by cases b;exact⟨h,.refl _,λ_ d=>by cases d⟩
 |e::l,s,a,k,h,f,b=>by
  simp only[MM,Jn]at b;obtain⟨s1,n,o⟩:=b;obtain⟨q,g,r⟩:=b7t hs h c hi f (k e E6) n;obtain⟨t,m,u⟩:=b36 hs c hi l (λe d=>k e (by simp[d])) q (g.kn _ f).1 o;refine⟨t,g.trans m,λv j=> ?_⟩;rcases Jt.1 j with rfl|j
  .exact r.more c (g.kn _ f).1 m
  .exact u v j
def Va(W H:Int)(has:List Int->Bool)(s:BS):Prop:=∀j:Nat,s.kn.getD j false=true->(j:Int)∈s.wt\/∀e,0<=e/\e<3->Te W H has s j e
theorem c0w(hs:AO W H=0):∀(f:Nat) {s:BS} {l:List Mv},BI W H s->Va W H has s->IL W H has f s=some l->∃b,b.out=l/\BI W H b/\b.wt=[]/\Va W H has b/\∀j:Nat,s.kn.getD j false=true->b.kn.getD j false=true/\b.out.getD j AE.d=s.out.getD j AE.d
 |0,s,l,h,m,a=>by
  unfold IL at a;split at a
  .rename_i e;cases a;exact⟨s,rfl,h,e,m,λ_ h=>⟨h,rfl⟩⟩
  .cases a
 |f+1,s,l,h,m,a=>by
  cases hw:s.wt with
  |nil=>
   rw[c0k hw]at a;cases a;exact⟨s,rfl,h,hw,m,λ_ h=>⟨h,rfl⟩⟩
  |cons i r=>
   rw[b8u hw]at a;simp only[Jn]at a;obtain⟨w,x,y⟩:=a;have n:=h.wt i (by rw[hw];simp);have z:BI W H ⟨s.out,s.kn,r⟩:=⟨h.ol,h.kl,λj g=>h.wt j (by rw[hw];exact K8 _ g),h.kn⟩
   obtain⟨A,k,o⟩:=b36 hs n.1.1 n.1.2 [0,1,2] E6 z n.2 x;have q:Va W H has w:=by
    intro j g;by_cases u:(j:Int)=i
    .right;rw[u];intro e t;rcases GZ t with rfl|rfl|rfl
     .exact o 0 E6
     .exact o 1 E6
     .exact o 2 E6
    .rcases k.new j g with bm|bm
     .rcases m j bm with c|c
      .rw[hw]at c;rcases Jt.1 c with c|c
       .exact absurd c u
       .exact .inl (k.wt _ c)
      .right;intro e t;have:=c e t;exact Te.more (s:=⟨s.out,s.kn,r⟩) E4 G5 this k
     .exact .inl bm
   obtain⟨b,B,C,E,F,v⟩:=c0w hs f A q y;exact⟨b,B,C,E,F,λj g=>⟨(v j (k.kn j g).1).1,(v j (k.kn j g).1).2.trans (k.kn j g).2⟩⟩
theorem b37{kn:Nat->Bool}(hs:AO W H=0)(step:∀(i:Nat) (e:Int),0<=e/\e<3->kn i=true->AW W H i e=0->kn (AH W H i e).toNat=true)(z:kn 0=true):∀j:Nat,j<AF W H->kn j=true:=by
 have hN:=CQ hs;have HI:∀(j:Nat) (e:Int),j<AF W H->0<=e/\e<3->AW W H j e=0->kn (AH W H j e).toNat=true->kn j=true:=by intro j e A l a n;obtain⟨⟨n0,n1⟩,_⟩:=GL hs (i:=j) E4 E4 l a;obtain⟨B,C⟩:=Qy hs (i:=j) E4 E4 l a;have:=step (AH W H j e).toNat e l n (by rw[show (((AH W H j e).toNat:Nat):Int)=AH W H j e from E4];exact B);rw[show (((AH W H j e).toNat:Nat):Int)=AH W H j e from E4,C]at this;simpa using this
 have o:∀m:Nat,4*m<AF W H->∀q:Nat,q<4->kn (4*m+q)=true:=by
  intro m;induction m using Nat.strongRecOn with
  |ind m x=>
   intro hm;have hw2:=Ho hs;have d:∀q:Nat,q<4->(4*m+q:Nat)<AF W H:=λq f=>by
    have:4∣AF W H:=by unfold AF;rw[M7];have:0<W*H:=Int.mul_pos E4 E4;exact⟨(W*H).toNat,E4⟩
    obtain⟨k,n⟩:=this;omega
   have g:∀q:Nat,q<4->AJ W H ((4*m+q:Nat):Int)=⟨(m:Int)%W,(m:Int)/W,q⟩:=λq f=>by have:=d q f;rw[JL hs E4 E4];have c:((4*m+q:Nat):Int)/4=m:=E4;have t:((4*m+q:Nat):Int)%4=q:=E4;rw[c,t]
   have a1:=My (m:Int) (show W≠0 from E4);have a2:=Mr (m:Int) (show 0<W from E4);have a3:0<=(m:Int)/W:=Int.ediv_nonneg E4 E4;have E:=Mt (m:Int) W;have a6:(m:Int)/W*W=W*((m:Int)/W):=Int.mul_comm _ _;have y:=JJ hs (i:=((4*m:Nat):Int)) E4 E4;have u:=g 0 E4;rw[Mk]at u;rw[u]at y;simp only at y;have one:∃q:Nat,q<4/\kn (4*m+q)=true:=by
    by_cases F:m=0
    .subst F;exact⟨0,E4,z⟩
    by_cases hx:0<(m:Int)%W
    .refine⟨3,E4,?_⟩;have b:AW W H ((4*m+3:Nat):Int) 0=0/\(AH W H ((4*m+3:Nat):Int) 0).toNat=4*(m-1)+1:=by
      have a:=Vp hs (i:=((4*m+3:Nat):Int)) (e:=0) E4 (by have:=d 3 E4;omega) E4;rw[g 3 E4]at a;generalize AH W H ((4*m+3:Nat):Int) 0=v at*;generalize AW W H ((4*m+3:Nat):Int) 0=G at*;simp[AU,EE,EJ,EL,tb]at a;have c:=a.1.2 E4;exact⟨c,by rw[a.2 c];omega⟩
     refine HI (4*m+3) 0 (d 3 E4) E4 b.1 ?_;rw[b.2];exact x (m-1) E4 E4 1 E4
    .refine⟨0,E4,?_⟩;have hy:0<(m:Int)/W:=by
      rcases Int.lt_or_le 0 ((m:Int)/W)with h|h
      .exact h
      .have:(m:Int)/W=0:=E4;rw[this]at E;omega
     have hWm:W<=m:=by have:W*1<=W*((m:Int)/W):=Int.mul_le_mul_of_nonneg_left E4 E4;omega
     have t:(-1+(m:Int)/W)*W=(m:Int)/W*W-W:=by rw[Int.add_mul];omega
     have b:AW W H ((4*m:Nat):Int) 0=0/\(AH W H ((4*m:Nat):Int) 0).toNat=4*(m-W.toNat)+2:=by have a:=Vp hs (i:=((4*m:Nat):Int)) (e:=0) E4 E4 E4;rw[u]at a;generalize AH W H ((4*m:Nat):Int) 0=v at*;generalize AW W H ((4*m:Nat):Int) 0=G at*;simp[AU,EE,EJ,EL,tb]at a;have c:=a.1.2 E4;exact⟨c,by rw[a.2 c,t];omega⟩
     refine HI (4*m) 0 E4 E4 b.1 ?_;rw[b.2];exact x (m-W.toNat) E4 E4 2 E4
   have w:∀q:Nat,q<4->kn (4*m+q)=true->kn (4*m+(q+1)%4)=true:=by
    intro q f n;have r:∀e:Int,0<=e/\e<3->(AU ⟨(m:Int)%W,(m:Int)/W,q⟩ e=⟨(m:Int)%W,(m:Int)/W,((q+1)%4:Nat)⟩)->kn (4*m+(q+1)%4)=true:=by intro e l I;have a:=Vp hs (i:=((4*m+q:Nat):Int)) (e:=e) E4 (by have:=d q f;omega) l;rw[g q f,I]at a;simp only at a;have c:AW W H ((4*m+q:Nat):Int) e=0:=a.1.2 E4;have:=step (4*m+q) e l n c;rw[a.2 c]at this;rwa[show (4*((m:Int)/W*W+(m:Int)%W)+(((q+1)%4:Nat):Int)).toNat=4*m+(q+1)%4 from E4]at this
    rcases(show q=0\/q=1\/q=2\/q=3 from E4)with rfl|rfl|rfl|rfl
    .exact r 1 E4 Gv
    .exact r 2 E4 Gv
    .exact r 1 E4 Gv
    .exact r 2 E4 Gv
   obtain⟨q,f,n⟩:=one;have k1:=w q f n;have k2:=w _ E4 k1;have k3:=w _ E4 k2;intro s dj;rcases(show s=q\/s=(q+1)%4\/s=((q+1)%4+1)%4\/s=(((q+1)%4+1)%4+1)%4 from E4)with e|e|e|e<;>(rw[e];assumption)
 intro j A;have:=o (j/4) E4 (j%4) E4;rwa[show 4*(j/4)+j%4=j from E4]at this
theorem d1e{s:BS}(hs:AO W H=0)(_:BI W H s)(b:s.wt=[])(c:Va W H has s)(d:s.kn.getD 0 false=true):∀j:Nat,j<AF W H->s.kn.getD j false=true:=by
 refine b37 (kn:=λj=>s.kn.getD j false) hs (λi e f g k=> ?_) d;rcases c i g with a|a
 .rw[b]at a;cases a
 .exact(a e f k).1
end
theorem b58{p:Pt}(hs:AO p.W p.H=0)(h:IY p=0):(Ao p).length=AF p.W p.H/\∀i:Nat,i<AF p.W p.H->
 (vM ((Ao p).getD i AE.d)/\near ((Ao p).getD i AE.d) (AJ p.W p.H i) 1024)/\∀e:Int,0<=e/\e<3->AW p.W p.H i e=0->(Ao p).getD (AH p.W p.H i e).toNat AE.d=IJ p.W p.H (EQ p.l) ((Ao p).getD i AE.d) i e:=by
 have hN:=CQ hs;have r:FV p=AF p.W p.H:=rfl;unfold IY at h;cases hr:NF p with
 |none=>rw[hr]at h;cases h
 |some l=>
  have s:Ao p=l:=by simp[Ao,hr]
  rw[s];unfold NF at hr;rw[r]at hr;have t:BI p.W p.H (FQ (AF p.W p.H)):=by
   refine⟨Fx,Fx,λi b=> ?_,λj k=> ?_⟩
   .have:i=0:=by simpa[FQ]using b
    subst this;refine⟨E4,?_⟩;show ((List.replicate _ false).set 0 true).getD 0 false=true;rw[ON _ _ E4];rfl
   .have c:((List.replicate (AF p.W p.H) false).set 0 true).getD j false=true:=k;rw[ON _ _ E4]at c;have:j=0:=Kq c;subst this;have wc:1<=(FQ (AF p.W p.H)).kn.count true:=by
     have:true∈(FQ (AF p.W p.H)).kn:=by show true∈(List.replicate (AF p.W p.H) false).set 0 true;exact List.mem_set Ed _
     exact List.count_pos_iff.2 this
    show vM ((List.replicate _ AE.d).getD 0 AE.d)/\near ((List.replicate _ AE.d).getD 0 AE.d) _ _;rw[WS];have m:vM AE.d:=⟨E7,E7⟩
    refine⟨m,?_⟩;have zk:=JJ hs (i:=((0:Nat):Int)) E4 E4;have hw:=Ho hs;unfold near;rw[Il m E4];have u:AJ p.W p.H ((0:Nat):Int)=⟨0,0,0⟩:=by rw[JL hs E4 E4];simp
    rw[u];have d0:AE.d=⟨0,0,0⟩:=rfl;rw[d0];simp[sq];try omega
  have v:Va p.W p.H (EQ p.l) (FQ (AF p.W p.H)):=by intro j k;have c:((List.replicate (AF p.W p.H) false).set 0 true).getD j false=true:=k;rw[ON _ _ E4]at c;have:j=0:=Kq c;subst this;exact .inl Fx
  obtain⟨n,w,f,o,q,x⟩:=c0w hs _ t v hr;have k0:n.kn.getD 0 false=true:=(x 0 (by show ((List.replicate _ false).set 0 true).getD 0 false=true;rw[ON _ _ E4];rfl)).1
  have a:=d1e hs f o q k0;rw[<-w];refine⟨f.ol,λi b=>⟨⟨(f.kn i (a i b)).1,b9s (f.kn i (a i b)).2 ?_⟩,λe y z=> ?_⟩⟩
  .have:=Xz n.kn;have:=f.kl;omega
  .rcases q i (a i b)with g|g
   .rw[o]at g;cases g
   .have:=(g e y z).2;simpa using this
def Qz:List SV->Option (Prop×Pt×Mv)
 | [x,.agg [.int .u8 t,.int .i64 a,.int .i64 b]]=>(NR x).map λq=>((q.1/\∀c∈q.2.l,AD .u8 c.e)/\0<=t/\t<=255,q.2,⟨t,a,b⟩)
 |_=>none
def prOK(p:Pt)(r:Mv):Prop:=(p.l.length<=100000/\∀c∈p.l,AD .u8 c.e)/\0<=r.t/\r.t<=255
theorem c0b{l:List SV}{q:Prop}{p:Pt}{r:Mv}(h:Qz l=some (q,p,r))(b:q):BN l [IH p,MQ r]/\prOK p r:=by
 unfold Qz at h;split at h
 .simp only[Iq]at h;obtain⟨⟨a,p'⟩,hx,rfl,rfl,rfl⟩:=h;obtain⟨c,d⟩:=OA hx b.1.1;exact⟨⟨c,Hk,Ji⟩,⟨d,b.1.2⟩,b.2⟩
 .cases h
theorem f6s{k:AK}{a:Pt->Mv->SV}(b:∀l,k l=(Qz l).map λq=>(q.1,a q.2.1 q.2.2)):RO ⟨Pt×Mv,λ(p,r)=>[IH p,MQ r],λ(p,r)=>prOK p r,λ(p,r)=>a p r⟩ k:=by intro args pre s h c;rw[b]at h;simp only[Iq]at h;obtain⟨⟨q,p,r⟩,hx,rfl,rfl⟩:=h;obtain⟨d,e⟩:=c0b hx c;exact⟨(p,r),d,e,rfl⟩
def d3h(p:Pt)(r:Mv):SV:=.tup [.sl 3 (BR p r).length (AE.row (BR p r)) none,.int .i64 (CF p r)]
def c53:AK:=λl=>(Qz l).map λq=>(q.1,d3h q.2.1 q.2.2)
def f84:Fam:=⟨Pt×Mv,λ(p,r)=>[IH p,MQ r],λ(p,r)=>prOK p r,λ(p,r)=>d3h p r⟩
theorem f7r:PS 104 c53:=by
 refine con [(82,Uo)] (by simpa using f5k) f84 (λ_ _=>none) c53 (f6s (λ_=>rfl)) ?_ Tryz.func104 E5 E5 E5 ?_
 .exact C3
 .rintro⟨p,r⟩ hp;replace hp:prOK p r:=hp;exact X0h
def d0t(p:Pt)(r:Mv):SV:=.tup [.sl 3 (CA p r).length (Co.row (CA p r)) none,.int .i64 (CF p r)]
def XB:AK:=λl=>(Qz l).map λq=>(q.1,d0t q.2.1 q.2.2)
def f6a:Fam:=⟨Pt×Mv,λ(p,r)=>[IH p,MQ r],λ(p,r)=>prOK p r,λ(p,r)=>d0t p r⟩
theorem c41:PS 71 XB:=by
 refine con [(82,Uo)] (by simpa using f5k) f6a (λ_ _=>none) XB (f6s (λ_=>rfl)) ?_ Tryz.func71 E5 E5 E5 ?_
 .exact C3
 .rintro⟨p,r⟩ hp;replace hp:prOK p r:=hp;exact X0h
def UK(m:Mv):Bool:= !(and (decide (CB m.t m.x m.y=0)) (decide (4<=m.t)))
def GQ(p:Pt)(r:Mv):List Bool:=(BR p r).map UK
theorem c24{p:Pt}{r:Mv}(b:0<=r.t):∀m∈BR p r,0<=m.t/\m.t<=255:=by
 intro m a;unfold BR at a;split at a
 .obtain⟨c,d,rfl⟩:=Jx.1 a;exact c68 ((c08 p).2.1 c d).1 b
 .simp at a
theorem c4c{p:Pt}{r:Mv}:(BR p r).length<=1024:=by
 unfold BR;split
 .rename_i h;have hs:BO p=0:=by
   unfold CF at h;split at h
   .assumption
   .rename_i a;exact absurd h a
  have:=(c08 p).2.2;have:=b2q (GC hs).1;simp only[Ke];omega
 .simp
def rUp(p:Pt)(r:Mv):SV:=.tup [.sl 1 (GQ p r).length (GR.row (GQ p r)) none,.int .i64 (CF p r)]
def kUp:AK:=λl=>(Qz l).map λq=>(q.1,rUp q.2.1 q.2.2)
def FUp:Fam:=⟨Pt×Mv,λ(p,r)=>[IH p,MQ r],λ(p,r)=>prOK p r,λ(p,r)=>rUp p r⟩
def IUp:Pt×Mv->Nat->Option Inv
 |(p,r),6=>some {β:=Nat,ok:=λi=>i<=(BR p r).length,st:=λi=>⟨[⟨27,none,.int .i64 i⟩,⟨26,none,.int .i64 (BR p r).length⟩,⟨25,none,.sl 3 (BR p r).length (AE.row (BR p r)) none⟩,⟨9,none,.osl 2⟩,⟨5,none,.int .i64 0⟩],
    [.cells 29 [.int .i64 p.W,.int .i64 p.H,.sl 3 p.l.length (DZ p.l) none],.cells 31 [.int .u8 r.t,.int .i64 r.x,.int .i64 r.y],.row 4 1 (BR p r).length (λj=>GR.sv (upto (λj=>UK ((BR p r).getD j AE.d)) (λ_=>false) i j)) none]⟩,μ:=λi=>(BR p r).length-i}
 |_,_=>none
theorem pUp:PS 44 kUp:=by
 refine con [(82,Uo),(45,XE)] (by simpa using⟨f5k,f39⟩) FUp IUp kUp (f6s (λ_=>rfl)) ?_ Tryz.func44 E5 E5 E5 ?_
 .exact C3
 .rintro⟨p,r⟩ hp;replace hp:prOK p r:=hp;have k:=@c4c p r;have md:(BR ⟨p.W,p.H,p.l⟩ ⟨r.t,r.x,r.y⟩).length<=1024:=k;have m:CF p r≠0->BR p r=[]:=λh=>(b27 h).1;have f:(GQ p r).length=(BR p r).length:=by simp[GQ]
  have b:∀j,j<(BR p r).length->(GQ p r).getD j GR.d=UK ((BR p r).getD j AE.d):=λj a=>by simp[GQ,a]
  refine X0a _ ?_;(repeat' first|constructor|intro h)<;>refine Lm ?_
  all_goals(try simp only[CR]at*)
  all_goals(first
   |exact Bf
   |(refine⟨E4,E4,SA E5 E4 E4,E4⟩)
   |(rw[f,m (by simpa using ‹(!decide (CF _ _=0))=true›)];rfl)
   |skip)
  refine⟨(0:Nat),Js _,?_,?_⟩
  .refine X0a _ ?_;(repeat' first|constructor|intro h)<;>refine Lm ?_
   all_goals(first
    |exact Aa
    |(intro j a;show _=GR.sv (upto _ _ 0 j);rw[b6e];rfl)
    |skip)
  .intro i g;replace g:i<=(BR p r).length:=g;have n:i<(BR p r).length->0<=((BR p r).getD i AE.d).t/\((BR p r).getD i AE.d).t<=255:=λh=>by
    rw[Jd,Je h];exact c24 hp.2.1 _ (Kd h)
   refine X0a _ ?_;(repeat' first|constructor|intro h)<;>refine Lm ?_
   all_goals(try simp only[In,c0v _ _ (Jm i),Ip]at*)
   all_goals(first
    |omega
    |exact n E4
    |exact A9
    |(show i<(BR p r).length;omega)
    |(refine⟨i+1,Ei,Ef,?_⟩)
    |(have e:CF p r=0:=by assumption
      exact e.symm)
    |exact f.symm
    |(intro j a;show GR.sv _=GR.sv _;rw[b8i _ _ E4,b j E4])
    |skip)
   all_goals refine X0a _ ?_;(repeat' first|constructor|intro h)<;>refine Lm ?_
   all_goals(try simp only[])
   all_goals(first
    |exact At
    |(intro j a;exact b65 GR (λ_ _=>rfl) (λ_ _=>rfl) (λj=>UK ((BR p r).getD j AE.d)) _ i j)
    |skip)
theorem WI{p:Pt}{i e:Int}(h:BO p=0)(r:AW p.W p.H i e=0):EQ p.l (DY p.W p.H i e)=true↔BB p i e≠0:=by
 obtain⟨hs,s,h1,h2⟩:=GC h;have t:=b8s h;have u:IR p i e=0:=by simp[IR,h,r]
 have v:LR p i e=LL p.l (EG p.W p.H i e) (FK p.W p.H i e):=by simp[LR,u]
 unfold BB DY;rw[v];generalize EG p.W p.H i e=a;generalize FK p.W p.H i e=b;constructor
 .intro w;obtain⟨x,hx,y⟩:=Jz.1 w;obtain⟨j,hj,rfl⟩:=K7.1 hx;have g:a=p.l[j].c/\b=p.l[j].e:=by simpa[HB]using y
  have d:p.l.getD j d0=p.l[j]:=Hm;have m:KX (p.l.getD j d0) a b=0:=by
   rw[d];unfold KX;try unfold Io
   rw[g.1,g.2];simp
  have n:IU p.l a b=j:=c84 p.l j E4 (λk z=>by have:=t k j z hj;rw[d,<-g.1,<-g.2]at this;exact this) (λ_=>E4)
  have f:LL p.l a b=true:=by unfold LL;rw[n];rw[d]at m;simp[hj,m]
  rw[f,n];simp only[Nf];have:=Jy.1 s p.l[j] (Kd hj);rw[d];intro A;simp[NN,Qm,A]at this
 .intro q;cases f:LL p.l a b with
  |false=>rw[f]at q;exact absurd rfl q
  |true=>
   unfold LL at f;simp only[Ix]at f;have hj:IU p.l a b<p.l.length:=E4;have d:p.l.getD (IU p.l a b) d0=p.l[IU p.l a b]:=Hm;refine Jz.2 ⟨p.l[IU p.l a b],Kd hj,?_⟩;have o:=f.2;rw[d]at o;have:a=p.l[IU p.l a b].c/\b=p.l[IU p.l a b].e:=by
    unfold KX at o;try unfold Io at o
    split at o<;>omega
   simp[HB,<-this.1,<-this.2]
structure PlOK (p:Pt) (r:Mv):Prop where
 pl:(BR p r).length=AF p.W p.H
 il:(CA p r).length=AF p.W p.H
 vm:∀i:Nat,i<AF p.W p.H->vM ((BR p r).getD i AE.d)
 im:∀i:Nat,i<AF p.W p.H->(CA p r).getD i Co.d=CL ((BR p r).getD i AE.d) (AJ p.W p.H i)/\vC ((CA p r).getD i Co.d)
 pass:∀(i:Nat) (e:Int),i<AF p.W p.H->0<=e/\e<3->AW p.W p.H i e=0->BB p i e=0->(BR p r).getD (AH p.W p.H i e).toNat AE.d=(BR p r).getD i AE.d
 loop:∀(i:Nat) (e:Int),i<AF p.W p.H->0<=e/\e<3->AW p.W p.H i e=0->BB p i e≠0->
  (CA p r).getD (AH p.W p.H i e).toNat Co.d=(CA p r).getD i Co.d/\CL ((BR p r).getD (AH p.W p.H i e).toNat AE.d) (AJ p.W p.H i)=CL ((BR p r).getD i AE.d) (AJ p.W p.H (AH p.W p.H i e))
theorem Ua{p:Pt}{r:Mv}(h:CF p r=0):BO p=0/\CB r.t r.x r.y=0/\IY p=0/\∀i,i<(Ao p).length->JK p r i=0:=by
 unfold CF at h;split at h
 .rename_i a;split at h
  .rename_i c;split at h
   .rename_i b;exact⟨a,c,b,λi hi=>b61 h i E4 E4⟩
   .rename_i b;exact absurd h b
  .cases h
 .rename_i a;exact absurd h a
theorem f95{m:Mv}{c:Cl}{K:Int}(a:vM m)(b:(-4200<=c.x/\c.x<=4200)/\(-4200<=c.y/\c.y<=4200)/\0<=c.q/\c.q<=3)(d:near m c K)(hK:K<=4096):vC (CL m c):=by unfold near at d;refine⟨E4,E4,?_⟩;rw[Il a b];exact f1t (FW a) b.2.2
theorem Rt{p:Pt}{r:Mv}(z:0<=r.t)(h:CF p r=0):PlOK p r:=by
 obtain⟨B,R,S,T⟩:=Ua h;have hs:=(GC B).1;have hN:=CQ hs;obtain⟨U,rel⟩:=b58 hs S;obtain⟨pl,pr⟩:=Sp h;obtain⟨M,N⟩:=b0j h;rw[U]at pl pr M N;have vr:vM r:=⟨z,R⟩
 have b:∀i:Nat,i<AF p.W p.H->GI ((Ao p).getD i AE.d).t ((Ao p).getD i AE.d).x ((Ao p).getD i AE.d).y r.t r.x r.y=0/\SH p.W p.H (EH ((Ao p).getD i AE.d) r) i=0:=by
  intro i a;have:=T i E4;unfold JK at this;split at this
  .rename_i v;exact⟨v,this⟩
  .rename_i v;exact absurd this v
 have f:∀(i:Nat) (c:Cl) (K:Int),i<AF p.W p.H->(0<=c.x/\c.x<=300)/\(0<=c.y/\c.y<=300)/\0<=c.q/\c.q<=3->near ((Ao p).getD i AE.d) c K->K<=4096->CL (EH ((Ao p).getD i AE.d) r) c=CL r (CL ((Ao p).getD i AE.d) c):=by intro i c K a o g V;obtain⟨⟨w,_⟩,_⟩:=rel i a;exact b9f w.1 z (b i a).1 Fw (f95 w E4 g V)
 have wide:∀i:Int,0<=i->i<4*p.W*p.H->(0<=(AJ p.W p.H i).x/\(AJ p.W p.H i).x<=300)/\(0<=(AJ p.W p.H i).y/\(AJ p.W p.H i).y<=300)/\0<=(AJ p.W p.H i).q/\(AJ p.W p.H i).q<=3:=λi X v=>PP hs X v;have m:∀i:Nat,i<AF p.W p.H->(CA p r).getD i Co.d=CL ((BR p r).getD i AE.d) (AJ p.W p.H i)/\vC ((CA p r).getD i Co.d):=by
  intro i a;rw[N i a,pr i a];have s:=(b i a).2;have O:WW p r i=CL (KN p r i) (AJ p.W p.H i):=by unfold WW imC KN CL AJ;simp only[s,keep,Kt]
  refine⟨O,?_⟩;rw[O];have C:vM (KN p r i):=(To (rel i a).1.1.1 z (b i a).1).2.2.2;unfold SH GG at s;have Y:=wide i E4 E4;split at s
  .split at s
   .rename_i Z;have E:DQ (CL (KN p r i) (AJ p.W p.H i)).x (CL (KN p r i) (AJ p.W p.H i)).y (CL (KN p r i) (AJ p.W p.H i)).q=0:=Z;unfold DQ at E;split at E
    .rename_i h5;refine⟨E4,E4,?_⟩;rw[Il C E4];exact f1t (FW C) Y.2.2
    .cases E
   .cases s
  .cases s
 refine⟨pl,M,λi a=> ?_,m,λi e a k g F=> ?_,λi e a k g F=> ?_⟩
 .rw[pr i a];exact(To (rel i a).1.1.1 z (b i a).1).2.2.2
 .obtain⟨⟨G,I⟩,A⟩:=GL hs (i:=i) E4 E4 k g;have o:EQ p.l (DY p.W p.H i e)=false:=by
   cases o:EQ p.l (DY p.W p.H i e)with
   |false=>rfl
   |true=>exact absurd F ((WI B g).1 o)
  have:=(rel i a).2 e k g;rw[b2h hs E4 E4 k g,o]at this;rw[pr _ E4,pr i a];unfold KN;rw[this];rfl
 .obtain⟨⟨G,I⟩,A⟩:=GL hs (i:=i) E4 E4 k g;have o:=(WI B g).2 F;have hx:=(rel i a).2 e k g;rw[b2h hs E4 E4 k g,o]at hx;simp only[Nf]at hx;obtain⟨⟨w,j⟩,_⟩:=rel i a;have u:(AH p.W p.H i e).toNat<AF p.W p.H:=E4;obtain⟨⟨C,nr2⟩,_⟩:=rel _ u;obtain⟨g1,P,J⟩:=c2f k (wide i E4 E4) w j E4;rw[<-hx]at g1 P J;have L:=c73 k (wide i E4 E4) w j;have n:(((AH p.W p.H i e).toNat:Nat):Int)=AH p.W p.H i e:=E4;have q1:near ((Ao p).getD (AH p.W p.H i e).toNat AE.d) (AJ p.W p.H i) 1025:=by
   unfold near at L⊢;rw[J];exact L
  have Q:CL ((Ao p).getD (AH p.W p.H i e).toNat AE.d) (AJ p.W p.H (AH p.W p.H i e))=CL ((Ao p).getD i AE.d) (AJ p.W p.H i):=by rw[A];exact P
  have q3:near ((Ao p).getD (AH p.W p.H i e).toNat AE.d) (AJ p.W p.H (AH p.W p.H i e)) 1024:=by unfold near at j⊢;rw[Q];exact j
  refine⟨?_,?_⟩
  .rw[(m _ u).1,(m i a).1,n,pr _ u,pr i a];unfold KN;rw[f _ _ 1024 u (wide _ G I) q3 E4,Q,f i _ 1024 a (wide i E4 E4) j E4]
  .rw[pr _ u,pr i a];unfold KN;rw[f _ _ 1025 u (wide i E4 E4) q1 E4,J,f i _ 1025 a (wide _ G I) (by rw[A];exact L) E4,A]
def Oq(P:Int->Bool)(l:List Int):Int:=match l.findIdx? P with
 |some i=>i
 |none=> -1
theorem b9t{P:Int->Bool}{l:List Int}{i:Nat}(hi:i<l.length)(h:∀j,j<i->P (l.getD j 0)=false)(a:P (l.getD i 0)=true):Oq P l=i:=by
 have:l.findIdx? P=some i:=by
  rw[L6];refine⟨hi,?_,λj b=> ?_⟩
  .simpa[Jd,hi]using a
  .have:=h j b;have c:j<l.length:=E4;simpa[Jd,c]using this
 simp[Oq,this]
theorem d6s{P:Int->Bool}{l:List Int}(h:∀j,j<l.length->P (l.getD j 0)=false):Oq P l= -1:=by
 have:l.findIdx? P=none:=by rw[Ln];intro x hx;obtain⟨j,a,rfl⟩:=K7.1 hx;have:=h j a;simpa[Jd,a]using this
 simp[Oq,this]
theorem b8j(P:Int->Bool)(l:List Int):decide (0<=Oq P l)=l.any P:=by
 unfold Oq;cases h:l.findIdx? P with
 |none=>
  have:=Ln.1 h;have:l.any P=false:=by rw[Jy];intro x hx;simpa using this x hx
  rw[this];rfl
 |some i=>
  have:=L6.1 h;obtain⟨a,b,_⟩:=this;have:l.any P=true:=Jz.2 ⟨_,Kd a,b⟩;rw[this];simp
def capN:SV->Option (Prop×Int)
 |.rel 1 1 f 0 0=>match f 0 with
  | [.int .i64 n]=>some (f=(λ_=>[.int .i64 n]),n)
  |_=>none
 |_=>none
def WL(n:Int):SV:=.rel 1 1 (λ_=>[.int .i64 n]) 0 0
theorem c43{s:SV}{q:Prop}{n:Int}(h:capN s=some (q,n))(a:q):s=WL n:=by
 unfold capN at h;split at h
 .split at h
  .cases h;rw[a];rfl
  .cases h
 .cases h
def OR(n v:Int):Bool:=decide (v<0)||decide (v>=n)
def b98:AK
 | [.int .i64 v,s]=>(capN s).map λn=>(n.1,.bool (OR n.2 v))
 |_=>none
def g02:Fam:=⟨Int×Int,λ(v,n)=>[.int .i64 v,WL n],λ_=>True,λ(v,n)=>.bool (OR n v)⟩
theorem g1i:PS 168 b98:=by
 refine con [] E6 g02 (λ_ _=>none) b98 ?_ ?_ Tryz.func168 E5 E5 E5 ?_
 .intro args pre s h a;unfold b98 at h;split at h
  .rename_i v x;simp only[Jk]at h;obtain⟨⟨q,n⟩,hx,b⟩:=h;cases b;rw[c43 hx a];exact⟨(v,n),⟨Ec,by simp[WL,SV.le2,SV.le1,SV.le0],Ji⟩,Ji,rfl⟩
  .cases h
 .exact C3
 .rintro⟨v,n⟩ a;refine X0a _ ?_;(repeat' first|constructor|intro h)<;>refine Lm ?_
  all_goals(first|rfl|skip)
def b8x:AK
 | [x,.clo g [c]]=>if g=168 then(match AC.as x with
   |some (n,f)=>(capN c).map λm=>(m.1/\AC.isL n f/\n<=100000,.int .i64 (Oq (OR m.2) (AC.lst n f)))
   |none=>none)else none
 |_=>none
def d1t:Fam:=⟨List Int×Int,λ(l,m)=>[.sl 1 l.length (AC.row l) none,.clo 168 [WL m]],λ(l,_)=>l.length<=100000,λ(l,m)=>.int .i64 (Oq (OR m) l)⟩
def f7q:List Int×Int->Nat->Option Inv
 |(l,m),2=>some {β:=Nat,ok:=λi=>i<=l.length/\∀j,j<i->OR m (l.getD j 0)=false,st:=λi=>⟨[⟨8,none,.int .i64 i⟩,⟨7,none,.int .i64 l.length⟩,⟨1,none,.clo 168 [WL m]⟩,⟨0,none,.sl 1 l.length (AC.row l) none⟩],[]⟩,μ:=λi=>l.length-i}
 |_,_=>none
theorem f6p:PS 169 b8x:=by
 refine con [(168,b98)] (by simpa using g1i) d1t f7q b8x ?_ ?_ Tryz.func169 E5 E5 E5 ?_
 .intro args pre s h a;unfold b8x at h;split at h
  .split at h
   .rename_i c;subst c;split at h
    .rename_i n f hx;simp only[Jk]at h;obtain⟨⟨q,m⟩,d,g⟩:=h;cases g;rw[c43 d a.1];exact⟨(AC.lst n f,m),⟨HT (AC.as_leL hx a.2.1),⟨rfl,rfl⟩,Ji⟩,by simp only[d1t,RT.lst_length];exact a.2.2,rfl⟩
    .cases h
   .cases h
  .cases h
 .exact C3
 .rintro⟨l,m⟩ a;replace a:l.length<=100000:=a;refine X0a _ ?_;(repeat' first|constructor|intro h)<;>refine Lm ?_
  refine⟨(0:Nat),⟨Js _,λj hj=>E4⟩,?_,?_⟩
  .exact X0d
  .intro i k;obtain⟨dw,br⟩:=k;refine X0a _ ?_;(repeat' first|constructor|intro h)<;>refine Lm ?_
   all_goals(try simp only[In]at*)
   all_goals(first
    |exact As
    |rfl
    |exact(b9t E4 br E8).symm
    |(refine⟨i+1,⟨E4,λj hj=> ?_⟩,Ef,?_⟩)
    |exact Bv
    |skip)
   .by_cases e:j<i
    .exact br j e
    .have:j=i:=E4;subst this;assumption
   .exact X0e
def b96:AK
 | [x,.clo g [c]]=>if g=168 then(match AC.as x with
   |some (n,f)=>(capN c).map λm=>(m.1/\AC.isL n f/\n<=100000,.bool ((AC.lst n f).any (OR m.2)))
   |none=>none)else none
 |_=>none
def d4j:Fam:=⟨List Int×Int,λ(l,m)=>[.sl 1 l.length (AC.row l) none,.clo 168 [WL m]],λ(l,_)=>l.length<=100000,λ(l,m)=>.bool (l.any (OR m))⟩
theorem g1b:PS 127 b96:=by
 refine con [(169,b8x)] (by simpa using f6p) d4j (λ_ _=>none) b96 ?_ ?_ Tryz.func127 E5 E5 E5 ?_
 .intro args pre s h a;unfold b96 at h;split at h
  .split at h
   .rename_i b;subst b;split at h
    .rename_i n f hx;simp only[Jk]at h;obtain⟨⟨q,m⟩,c,d⟩:=h;cases d;rw[c43 c a.1];exact⟨(AC.lst n f,m),⟨HT (AC.as_leL hx a.2.1),⟨rfl,rfl⟩,Ji⟩,by simp only[d4j,RT.lst_length];exact a.2.2,rfl⟩
    .cases h
   .cases h
  .cases h
 .exact C3
 .rintro⟨l,m⟩ a;replace a:l.length<=100000:=a;refine X0a _ ?_;(repeat' first|constructor|intro h)<;>refine Lm ?_
  all_goals(try simp only[RT.lst_row]at*)
  all_goals(first
   |exact⟨Ji,AC.isL_row l,a⟩
   |exact b8j _ _
   |skip)
def BX(L:List Stk):List Int:=L.flatMap (·.l)
def KY(n:Int)(L:List Stk)(i:Nat):Bool:=
 (!decide (DQ (L.getD i AA.d).c.x (L.getD i AA.d).c.y (L.getD i AA.d).c.q=0)||decide (0<(i:Int))&&decide (0<=FY (L.getD ((i:Int)-1).toNat AA.d).c.x (L.getD ((i:Int)-1).toNat AA.d).c.y (L.getD ((i:Int)-1).toNat AA.d).c.q (L.getD i AA.d).c.x (L.getD i AA.d).c.y (L.getD i AA.d).c.q)||decide (((L.getD i AA.d).l.length:Int)=0))||(L.getD i AA.d).l.any (OR n)
def IE:List Int->Bool
 | []=>false
 |x::l=>l.contains x||IE l
def JP(W H:Int)(L:List Stk):Int:=
 if AO W H=0 then(if(List.range L.length).any (KY (EP W H) L)then 1 else if IE (BX L)then 8 else if((BX L).length:Int)<EP W H then 6 else 0)else AO W H
def IB(L:List Stk)(i k:Nat):List Int:=BX (L.take i)++(L.getD i AA.d).l.take k
def Xs(W H:Int)(L:List Stk):Int:=if IE (BX L)then 8 else if((BX L).length:Int)<EP W H then 6 else 0
def c3g(W H:Int)(L:List Stk):Prop:=∀i,i<L.length->∀v∈(L.getD i AA.d).l,0<=v/\v<EP W H
def ownC(W H:Int)(l:List Int):List Blk:=[.cells 26 [.int .i64 W,.int .i64 H],.cells 3 [.int .i64 (EP W H)],.row 4 1 (EP W H).toNat (λj=>[.bool (l.contains (j:Int))]) none]
theorem c7u(L:List Stk)(i:Nat):IB L i 0=BX (L.take i):=by simp[IB]
theorem d87{L:List Stk}{i:Nat}(hi:i<L.length):IB L i (L.getD i AA.d).l.length=IB L (i+1) 0:=by
 rw[c7u];have:L.take (i+1)=L.take i++[L.getD i AA.d]:=by rw[Mb];simp[hi]
 simp[IB,BX,this]
theorem c5k{L:List Stk}{i k:Nat}(a:k<(L.getD i AA.d).l.length):IB L i (k+1)=IB L i k++[(L.getD i AA.d).l.getD k 0]:=by unfold IB;rw[Mb,N1];congr 1;rw[Jd (l:=(L.getD i AA.d).l),Je a];simp
theorem d72(L:List Stk):IB L L.length 0=BX L:=by simp[c7u]
theorem d3e{L:List Stk}{i k:Nat}(hi:i<L.length):∃m,BX L=IB L i k++m:=by
 have a:L=L.take i++L.getD i AA.d::L.drop (i+1):=by have:=List.take_append_drop i L;rw[List.drop_eq_getElem_cons hi]at this;simp[hi]
 refine⟨(L.getD i AA.d).l.drop k++BX (L.drop (i+1)),?_⟩;have b:BX L=BX (L.take i)++((L.getD i AA.d).l++BX (L.drop (i+1))):=by
  conv=>lhs;rw[a]
  simp[BX]
 rw[b];unfold IB;rw[N1,<-N1 (List.take k _),List.take_append_drop]
theorem c1w(l:List Int)(x:Int):IE (l++[x])=(IE l||l.contains x):=by
 induction l with
 |nil=>rfl
 |cons a r c=>
  simp only[Mm,IE,c,List.contains_cons];have:(r++[x]).contains a=(r.contains a||a==x):=by rw[Ly];simp
  rw[this];cases r.contains a<;>cases IE r<;>cases r.contains x<;>simp[BEq.comm (a:=a) (b:=x)]
theorem d86{l:List Int}(m:List Int)(h:IE l=true):IE (l++m)=true:=by
 induction l with
 |nil=>cases h
 |cons a r b=>
  simp only[Mm,IE,Kk]at h⊢;rcases h with h|h
  .left;simp at h⊢;exact .inl h
  .exact .inr (b h)
def b4f:AK
 | [x,.agg [.int .i64 W,.int .i64 H]]=>(IQ x).map λq=>(q.1/\(∀s∈q.2,AD .u8 s.c.q)/\(BX q.2).length<=100000,.int .i64 (JP W H q.2))
 |_=>none
def f16:Fam:=⟨List Stk×Int×Int,λ(L,W,H)=>[FI L,.agg [.int .i64 W,.int .i64 H]],λ(L,_,_)=>ET L/\(∀s∈L,AD .u8 s.c.q)/\(BX L).length<=100000,λ(L,W,H)=>.int .i64 (JP W H L)⟩
def d7h:List Stk×Int×Int->Nat->Option Inv
 |(L,W,H),6=>some {β:=Nat,ok:=λi=>i<=L.length/\∀j,j<i->KY (EP W H) L j=false,st:=λi=>⟨[⟨25,none,.int .i64 i⟩,⟨24,none,.int .i64 L.length⟩,⟨23,none,.sl 4 L.length (AA.row L) none⟩,⟨6,none,.own 1 0⟩,⟨4,none,.int .i64 0⟩,⟨0,none,.sl 4 L.length (AA.row L) none⟩],[.cells 26 [.int .i64 W,.int .i64 H],.cells 3 [.int .i64 (EP W H)]]⟩,μ:=λi=>L.length-i}
 |(L,W,H),15=>some {β:=Nat,ok:=λi=>i<=L.length/\IE (IB L i 0)=false/\JP W H L=Xs W H L/\c3g W H L,st:=λi=>⟨[⟨68,none,.int .i64 i⟩,⟨67,none,.int .i64 L.length⟩,⟨66,none,.sl 4 L.length (AA.row L) none⟩,⟨11,none,.int .i64 (IB L i 0).length⟩,⟨10,none,.osl 2⟩,⟨6,none,.own 1 0⟩,⟨4,none,.int .i64 0⟩],ownC W H (IB L i 0)⟩,μ:=λi=>L.length-i,sub:=λi=>some fun|18=>some {β:=Nat,ok:=λk=>k<=(L.getD i AA.d).l.length/\IE (IB L i k)=false,st:=λk=>⟨[⟨75,none,.int .i64 k⟩,⟨74,none,.int .i64 (L.getD i AA.d).l.length⟩,⟨73,none,.sl 1 (L.getD i AA.d).l.length (AC.row (L.getD i AA.d).l) none⟩,⟨68,none,.int .i64 i⟩,⟨67,none,.int .i64 L.length⟩,⟨66,none,.sl 4 L.length (AA.row L) none⟩,⟨11,none,.int .i64 (IB L i k).length⟩,⟨10,none,.osl 2⟩,⟨6,none,.own 1 0⟩,⟨4,none,.int .i64 0⟩],ownC W H (IB L i k)++[.cells 41 [.int .i64 (L.getD i AA.d).c.x,.int .i64 (L.getD i AA.d).c.y,.int .u8 (L.getD i AA.d).c.q,.sl 1 (L.getD i AA.d).l.length (AC.row (L.getD i AA.d).l) none]]⟩,μ:=λk=>(L.getD i AA.d).l.length-k}|_=>none}
 |_,_=>none
theorem d9k:PS 126 b4f:=by
 refine con [(96,QC),(103,VQ),(123,Qu),(100,Rx),(127,b96)] (by simpa using⟨Td,d2y,Ul,b10,g1b⟩) f16 d7h b4f ?_ ?_ Tryz.func126 E5 E5 E5 ?_
 .intro args pre s h a;unfold b4f at h;split at h
  .rename_i x W H;simp only[Iq]at h;obtain⟨⟨q,L⟩,hx,rfl,rfl⟩:=h;obtain⟨J,K⟩:=LD hx a.1;exact⟨(L,W,H),⟨J,Ej,Ji⟩,⟨K,a.2⟩,rfl⟩
  .cases h
 .exact C3
 .rintro⟨L,W,H⟩ a;replace a:ET L/\(∀s∈L,AD .u8 s.c.q)/\(BX L).length<=100000:=a;have hc:0<=EP W H/\EP W H<=1024:=by
   unfold EP;split
   .have:=QZ ‹_›;have e:4*W*H=4*(W*H):=M7 _ _ _;omega
   .omega
  have hl:=a.1.1;refine X0a _ ?_;(repeat' first|constructor|intro h)<;>refine Lm ?_
  .have M:¬AO W H=0:=Ea;unfold JP;rw[Jg M]
  .refine⟨(0:Nat),⟨Js _,λj hj=>E4⟩,?_,?_⟩
   .exact X0d
   .intro i t;obtain⟨N,g⟩:=t;have u:=Pp a.1 i;have hg2:=Pp a.1 (i-1);have w:∀k,AD .u8 (L.getD k AA.d).c.q:=λk=>by
     rw[Jd];cases y:L[k]? with
     |none=>exact(by simp only[AD];decide:AD .u8 0)
     |some s=>exact a.2.1 s (Jj y)
    refine X0a _ ?_;(repeat' first|constructor|intro h)<;>refine Lm ?_
    all_goals(try simp only[In,RT.lst_row]at*)
    all_goals(first
     |omega
     |exact u
     |exact⟨rfl,AC.isL_row _,u⟩
     |exact w _
     |exact Au
     |exact Ar
     |exact A9
     |(rintro⟨_,hx⟩;have hx:=Kq hx;simp only[AD];omega)
     |(rintro⟨_,hx⟩;have hx:=Kq hx;omega)
     |(rintro⟨_,hx⟩;exact⟨w _,w _⟩)
     |skip)
    .have n:KY (EP W H) L i=true:=E8;have hs:AO W H=0:=Id;have:(List.range L.length).any (KY (EP W H) L)=true:=Jz.2 ⟨i,Ki.2 E4,n⟩;unfold JP;rw[Jf hs,Jf this]
    .have n:KY (EP W H) L i=false:=E8;refine⟨i+1,⟨E4,λj hj=> ?_⟩,E4,?_⟩
     .by_cases e:j<i
      .exact g j e
      .have:j=i:=E4;subst this;exact n
     .exact X0e
    .refine⟨E4,E4,SA E5 E4 E4,E4⟩
    .have hs:AO W H=0:=Id;have O:(List.range L.length).any (KY (EP W H) L)=false:=by
      rw[Jy];intro j hj;have:=g j Hh;simp[this]
     have P:JP W H L=Xs W H L:=by unfold JP;rw[Jf hs,Jg (by simp[O])];rfl
     have Q:c3g W H L:=by intro j hj v o;have n:=g j E4;unfold KY at n;rw[Lz]at n;have:=Jy.1 n.2 v o;simp[OR]at this;omega
     refine⟨(0:Nat),⟨Js _,rfl,P,Q⟩,?_,?_⟩
     .exact X0e
     .intro i t;obtain⟨N,g,r,F⟩:=t;have u:=Pp a.1 i;refine X0a _ ?_;(repeat' first|constructor|intro h)<;>refine Lm ?_
      all_goals(try simp only[In]at*)
      all_goals(first
       |omega
       |exact Au
       |skip)
      .have f:i<L.length:=E4;refine⟨(0:Nat),⟨Js _,g⟩,?_,?_⟩
       .exact X0e
       .intro k y;obtain⟨gz,G⟩:=y;obtain⟨m,R⟩:=d3e (k:=k) f;have Y2:(IB L i k).length<=100000:=by
         have:=a.2.2;rw[R,Kj]at this;omega
        have o:k<(L.getD i AA.d).l.length->0<=(L.getD i AA.d).l.getD k AC.d/\(L.getD i AA.d).l.getD k AC.d<EP W H:=λh=>F i f _ (by rw[Jd (l:=(L.getD i AA.d).l),Je h];exact Kd h)
        refine X0a _ ?_;(repeat' first|constructor|intro h)<;>refine Lm ?_
        all_goals(try simp only[In]at*)
        all_goals(first
         |omega
         |exact Au
         |(have:=o E4;omega)
         |(show ((L.getD i AA.d).l.getD k AC.d).toNat<(EP W H).toNat;have:=o E4;omega)
         |skip)
        .have S:=o E4;rw[show ((((L.getD i AA.d).l.getD k AC.d).toNat:Nat):Int)=(L.getD i AA.d).l.getD k AC.d from E4]at*;obtain⟨T,U⟩:=d3e (k:=k+1) f;rw[r];unfold Xs;rw[Jf];rw[U];refine d86 T ?_;rw[c5k E4,c1w];rw[Kk];right;assumption
        .have S:=o E4;rw[show ((((L.getD i AA.d).l.getD k AC.d).toNat:Nat):Int)=(L.getD i AA.d).l.getD k AC.d from E4]at*;have V:(IB L i k).contains ((L.getD i AA.d).l.getD k AC.d)=false:=E8;have z:=c5k (L:=L) (i:=i) (k:=k) E4;refine⟨k+1,⟨E4,?_⟩,E4,?_⟩
         .rw[z,c1w,G,Nj];exact V
         .refine X0a _ ?_;(repeat' first|constructor|intro h)<;>refine Lm ?_
          all_goals first
           |exact B5
           |(rw[z,Kj];rfl)
           |skip
          intro j hj;rw[z];by_cases I:j=((L.getD i AA.d).l.getD k AC.d).toNat
          .have A:(j:Int)=(L.getD i AA.d).l.getD k AC.d:=E4;have B:((IB L i k)++[(L.getD i AA.d).l.getD k 0]).contains ((L.getD i AA.d).l.getD k AC.d)=true:=by
            rw[Nm,Jq,Ka];exact .inr (K4.2 rfl)
           rw[K2 I,A,B];rfl
          .have A:¬(j:Int)=(L.getD i AA.d).l.getD k AC.d:=E4;rw[K5 I];have B:((IB L i k)++[(L.getD i AA.d).l.getD k 0]).contains (j:Int)=(IB L i k).contains (j:Int):=by
            rw[Ly];have X:¬(j:Int)=(L.getD i AA.d).l.getD k 0:=A;simp only[Nm,Ka,K4,Jq,X,or_false]
           rw[B];rfl
        .have C:k=(L.getD i AA.d).l.length:=E4;subst C;have E:=d87 f;refine⟨i+1,⟨E4,by rw[<-E];exact G,r,F⟩,E4,?_⟩;refine X0a _ ?_;(repeat' first|constructor|intro h)<;>refine Lm ?_
         all_goals first
          |exact B5
          |(rw[E];done)
          |(intro j hj;rw[E];done)
          |skip
      .have f:i=L.length:=E4;subst f;rw[d72]at*;rw[r];unfold Xs;rw[Jg (by simp[g]),Jf E8]
      .have f:i=L.length:=E4;subst f;rw[d72]at*;rw[r];unfold Xs;rw[Jg (by simp[g]),Jg E8]
def capI:SV->Option (Prop×List Cl×Option Nat)
 |.rel 1 1 f 0 0=>match f 0 with
  | [.sl 3 n g a]=>some (f=(λ_=>[.sl 3 n g a])/\g=Co.row (Co.lst n g),Co.lst n g,a)
  |_=>none
 |_=>none
def Tq(l:List Cl)(a:Option Nat):SV:=.rel 1 1 (λ_=>[.sl 3 l.length (Co.row l) a]) 0 0
theorem c46{s:SV}{q:Prop}{l:List Cl}{a:Option Nat}(h:capI s=some (q,l,a))(b:q):s=Tq l a:=by
 unfold capI at h;split at h
 .split at h
  .cases h;obtain⟨c,d⟩:=b;rw[c];unfold Tq;rw[RT.lst_length,<-d]
  .cases h
 .cases h
def Ww:SV->Option (Prop×Cl×SV)
 |.rel 4 1 f 0 0=>match f 0 with
  | [.int .i64 a,.int .i64 b,.int .u8 c,z]=>some (f=(λ_=>[.int .i64 a,.int .i64 b,.int .u8 c,z]),⟨a,b,c⟩,z)
  |_=>none
 |_=>none
def VB(c:Cl)(z:SV):SV:=.rel 4 1 (λ_=>[.int .i64 c.x,.int .i64 c.y,.int .u8 c.q,z]) 0 0
theorem c3m{s:SV}{q:Prop}{c:Cl}{z:SV}(h:Ww s=some (q,c,z))(a:q):s=VB c z:=by
 unfold Ww at h;split at h
 .split at h
  .cases h;rw[a];rfl
  .cases h
 .cases h
def Ob(a:List Cl)(c:Cl)(v:Int):Bool:= !decide (a.getD v.toNat Co.d=c)
def b93:AK
 | [.int .i64 v,s,t]=>match capI s,Ww t with
   |some (q,a,_),some (b,c,_)=>some ((q/\b)/\0<=v/\v<a.length,.bool (Ob a c v))
   |_,_=>none
 |_=>none
def g0i:Fam:=⟨Int×(List Cl×Option Nat)×Cl×SV,λ(v,(a,b),c,z)=>[.int .i64 v,Tq a b,VB c z],λ(v,(a,_),_,_)=>0<=v/\v<a.length,λ(v,(a,_),c,_)=>.bool (Ob a c v)⟩
theorem f99:PS 128 b93:=by
 refine con [] E6 g0i (λ_ _=>none) b93 ?_ ?_ Tryz.func128 E5 E5 E5 ?_
 .intro args pre s h a;unfold b93 at h;split at h
  .rename_i v x1 x2;split at h
   .rename_i q b d q' c z e f;cases h;rw[c46 e a.1.1,c3m f a.1.2];exact⟨(v,(b,d),c,z),⟨Ec,by simp[Tq,SV.le2,SV.le1,SV.le0],by simp[VB,SV.le2,SV.le1,SV.le0],Ji⟩,a.2,rfl⟩
   .cases h
  .cases h
 .exact C5
 .rintro⟨v,⟨b,d⟩,c,z⟩ a;replace a:0<=v/\v<b.length:=a;refine X0a _ ?_;(repeat' first|constructor|intro h)<;>refine Lm ?_
  all_goals(first
   |exact a
   |(show v.toNat<b.length;omega)
   |(simp only[Ob,clEq];done)
   |skip)
def b9i:AK
 | [x,.clo g [s,t]]=>if g=128 then(match AC.as x,capI s,Ww t with
   |some (n,f),some (q,a,_),some (b,c,_)=>some ((q/\b)/\(AC.isL n f/\n<=100000)/\∀v∈AC.lst n f,0<=v/\v<a.length,.int .i64 (Oq (Ob a c) (AC.lst n f)))
   |_,_,_=>none)else none
 |_=>none
def f6g:Fam:=⟨List Int×(List Cl×Option Nat)×Cl×SV,λ(l,(a,b),c,z)=>[.sl 1 l.length (AC.row l) none,.clo 128 [Tq a b,VB c z]],λ(l,(a,_),_,_)=>l.length<=100000/\∀v∈l,0<=v/\v<a.length,λ(l,(a,_),c,_)=>.int .i64 (Oq (Ob a c) l)⟩
def f5t:List Int×(List Cl×Option Nat)×Cl×SV->Nat->Option Inv
 |(l,(a,b),c,z),2=>some {β:=Nat,ok:=λi=>i<=l.length/\∀j,j<i->Ob a c (l.getD j 0)=false,st:=λi=>⟨[⟨8,none,.int .i64 i⟩,⟨7,none,.int .i64 l.length⟩,⟨1,none,.clo 128 [Tq a b,VB c z]⟩,⟨0,none,.sl 1 l.length (AC.row l) none⟩],[]⟩,μ:=λi=>l.length-i}
 |_,_=>none
theorem f66:PS 169 b9i:=by
 refine con [(128,b93)] (by simpa using f99) f6g f5t b9i ?_ ?_ Tryz.func169 E5 E5 E5 ?_
 .intro args pre s h hp;unfold b9i at h;split at h
  .split at h
   .rename_i g;subst g;split at h
    .rename_i n f q im cp q' c z hx k m;cases h;rw[c46 k hp.1.1,c3m m hp.1.2];exact Dt
    .cases h
   .cases h
  .cases h
 .exact C3
 .rintro⟨l,⟨im,cp⟩,c,z⟩ hp;replace hp:l.length<=100000/\∀v∈l,0<=v/\v<im.length:=hp;refine X0a _ ?_;(repeat' first|constructor|intro h)<;>refine Lm ?_
  refine⟨(0:Nat),⟨Js _,λj hj=>E4⟩,?_,?_⟩
  .exact X0d
  .intro i o;obtain⟨dw,br⟩:=o;have b:i<l.length->0<=l.getD i AC.d/\l.getD i AC.d<im.length:=λh=>hp.2 _ (by
    rw[Jd,Je h];exact Kd h)
   refine X0a _ ?_;(repeat' first|constructor|intro h)<;>refine Lm ?_
   all_goals(try simp only[In,RT.lst_row]at*)
   all_goals(first
    |exact As
    |rfl
    |exact⟨⟨⟨Ji,Ji⟩,Ji⟩,b E4⟩
    |exact⟨⟨⟨rfl,rfl⟩,rfl⟩,b E4⟩
    |exact(b9t E4 br E8).symm
    |(refine⟨i+1,⟨E4,λj hj=> ?_⟩,Ef,?_⟩)
    |exact Bv
    |skip)
   .by_cases e:j<i
    .exact br j e
    .have:j=i:=E4;subst this;assumption
   .exact X0e
def b8q:AK
 | [x,.clo g [s,t]]=>if g=128 then(match AC.as x,capI s,Ww t with
   |some (n,f),some (q,a,_),some (b,c,_)=>some ((q/\b)/\(AC.isL n f/\n<=100000)/\∀v∈AC.lst n f,0<=v/\v<a.length,.bool ((AC.lst n f).any (Ob a c)))
   |_,_,_=>none)else none
 |_=>none
def f9t:Fam:=⟨List Int×(List Cl×Option Nat)×Cl×SV,λ(l,(a,b),c,z)=>[.sl 1 l.length (AC.row l) none,.clo 128 [Tq a b,VB c z]],λ(l,(a,_),_,_)=>l.length<=100000/\∀v∈l,0<=v/\v<a.length,λ(l,(a,_),c,_)=>.bool (l.any (Ob a c))⟩
theorem g0f:PS 127 b8q:=by
 refine con [(169,b9i)] (by simpa using f66) f9t (λ_ _=>none) b8q ?_ ?_ Tryz.func127 E5 E5 E5 ?_
 .intro args pre s h hp;unfold b8q at h;split at h
  .split at h
   .rename_i a;subst a;split at h
    .rename_i n f q im cp q' c z hx b d;cases h;rw[c46 b hp.1.1,c3m d hp.1.2];exact Dt
    .cases h
   .cases h
  .cases h
 .exact C3
 .rintro⟨l,⟨im,cp⟩,c,z⟩ hp;replace hp:l.length<=100000/\∀v∈l,0<=v/\v<im.length:=hp;refine X0a _ ?_;(repeat' first|constructor|intro h)<;>refine Lm ?_
  all_goals(try simp only[RT.lst_row]at*)
  all_goals(first
   |exact⟨⟨⟨Ji,Ji⟩,Ji⟩,⟨AC.isL_row l,hp.1⟩,hp.2⟩
   |exact⟨⟨⟨rfl,rfl⟩,rfl⟩,⟨AC.isL_row l,hp.1⟩,hp.2⟩
   |exact b8j _ _
   |skip)
theorem b7j{W H:Int}{L:List Stk}(h:JP W H L=0):AO W H=0/\(∀i,i<L.length->KY (EP W H) L i=false)/\IE (BX L)=false/\EP W H<=(BX L).length:=by
 unfold JP at h;split at h
 .rename_i hs;split at h
  .cases h
  .rename_i a;split at h
   .cases h
   .rename_i b;split at h
    .cases h
    .refine⟨hs,λi c=> ?_,by simpa using b,E4⟩;have:=Jy.1 (by simpa using a:(List.range L.length).any (KY (EP W H) L)=false) i (Ki.2 c);simpa using this
 .rename_i hs;exact absurd h hs
theorem c13{W H:Int}{L:List Stk}(h:∀i,i<L.length->KY (EP W H) L i=false):c3g W H L:=by intro j b v c;have a:=h j b;unfold KY at a;rw[Lz]at a;have:=Jy.1 a.2 v c;simp[OR]at this;omega
theorem im_len{p:Pt}{r:Mv}(h:CF p r=0):((CA p r).length:Int)=EP p.W p.H:=by
 have c:BO p=0/\IY p=0:=by
  unfold CF at h;split at h
  .rename_i a;split at h
   .split at h
    .rename_i b;exact⟨a,b⟩
    .rename_i b;exact absurd h b
   .cases h
  .rename_i a;exact absurd h a
 have hs:=(GC c.1).1;have:=(c08 p).1 c.2;have:=(b0j h).1;have:=(b2q hs).2.2;omega
theorem b0i{p:Prop}[Decidable p]:((!decide p)=true)=¬p:=E6
theorem Ya{p:Prop}[Decidable p]:((!decide p)=false)=p:=E6
def QV(a:List Cl)(s:Stk):Bool:=s.l.any (Ob a s.c)
def Qi(c:Cl)(e:Nat):Bool:= !decide (GF c.x c.y c.q e=0)
def Qe(s:Stk):Bool:=(List.range 3).any (Qi s.c)
def CZ(p:Pt)(r:Mv)(L:List Stk):Int:=
 if CF p r=0 then(if JP p.W p.H L=0 then(if L.any (QV (CA p r))then 6 else if L.any Qe then 3 else 0)else JP p.W p.H L)else CF p r
def EV(L:List Stk):Prop:=ET L/\(∀s∈L,AD .u8 s.c.q)/\(BX L).length<=100000
def We:AK
 | [x,y,z]=>match Qz [x,y],IQ z with
   |some q,some s=>some (q.1/\s.1/\(∀t∈s.2,AD .u8 t.c.q)/\(BX s.2).length<=100000,.int .i64 (CZ q.2.1 q.2.2 s.2))
   |_,_=>none
 |_=>none
def d2j:Fam:=⟨Pt×Mv×List Stk,λ(p,r,L)=>[IH p,MQ r,FI L],λ(p,r,L)=>prOK p r/\EV L,λ(p,r,L)=>.int .i64 (CZ p r L)⟩
def d5m:Pt×Mv×List Stk->Nat->Option Inv
 |(p,r,L),8=>some {β:=Nat,ok:=λi=>i<=L.length/\∀j,j<i->QV (CA p r) (L.getD j AA.d)=false,st:=λi=>⟨[⟨35,none,.int .i64 i⟩,⟨34,none,.int .i64 L.length⟩,⟨33,none,.sl 4 L.length (AA.row L) none⟩,⟨7,none,.own 2 0⟩,⟨6,none,.int .i64 0⟩,⟨2,none,.sl 4 L.length (AA.row L) none⟩],[.cells 29 [.int .i64 p.W,.int .i64 p.H,.sl 3 p.l.length (DZ p.l) none],.cells 31 [.int .u8 r.t,.int .i64 r.x,.int .i64 r.y],.cells 146 [.sl 3 (CA p r).length (Co.row (CA p r)) none]]⟩,μ:=λi=>L.length-i}
 |(_,_,L),14=>some {β:=Nat,ok:=λi=>i<=L.length/\∀j,j<i->Qe (L.getD j AA.d)=false,st:=λi=>⟨[⟨46,none,.int .i64 i⟩,⟨45,none,.int .i64 L.length⟩,⟨44,none,.sl 4 L.length (AA.row L) none⟩,⟨6,none,.int .i64 0⟩],[]⟩,μ:=λi=>L.length-i,sub:=λi=>some fun|17=>some {β:=Nat,ok:=λk=>k<=3/\∀j,j<k->Qi (L.getD i AA.d).c j=false,st:=λk=>⟨[⟨50,none,.int .u8 k⟩,⟨13,none,.own 0 0⟩,⟨46,none,.int .i64 i⟩,⟨45,none,.int .i64 L.length⟩,⟨44,none,.sl 4 L.length (AA.row L) none⟩,⟨6,none,.int .i64 0⟩],[.cells 41 [.int .i64 (L.getD i AA.d).c.x,.int .i64 (L.getD i AA.d).c.y,.int .u8 (L.getD i AA.d).c.q,.sl 1 (L.getD i AA.d).l.length (AC.row (L.getD i AA.d).l) none]]⟩,μ:=λk=>3-k}|_=>none}
 |_,_=>none
theorem c2a:PS 85 We:=by
 refine con [(71,XB),(126,b4f),(127,b8q),(129,Vk)] (by simpa using⟨c41,d9k,g0f,b05⟩) d2j d5m We ?_ ?_ Tryz.func85 E5 E5 E5 ?_
 .intro args pre s h hp;unfold We at h;split at h
  .rename_i x y z;split at h
   .rename_i q t f g;cases h;obtain⟨q,p,r⟩:=q;obtain⟨u,L⟩:=t;obtain⟨a1,a2⟩:=c0b f hp.1;obtain⟨b1,b2⟩:=LD g hp.2.1;exact Du
   .cases h
  .cases h
 .exact C5
 .rintro⟨p,r,L⟩ ⟨A,m⟩;have hl:=m.1.1;refine X0a _ ?_;(repeat' first|constructor|intro h)<;>refine Lm ?_
  all_goals(try simp only[CR,RT.lst_row]at*)
  all_goals(try simp only[b0i,Ya]at*)
  all_goals(first
   |exact⟨⟨⟨EC _,A.1.1⟩,A.1.2⟩,A.2⟩
   |exact⟨LH L m.1,m.2⟩
   |skip)
  .have f:¬CF p r=0:=E8;unfold CZ;rw[Jg f]
  .have f:CF p r=0:=E8;have g:¬JP p.W p.H L=0:=E8;unfold CZ;rw[Jf f,Jg g]
  .have f:CF p r=0:=E8;have g:JP p.W p.H L=0:=E8;have G:=c13 (b7j g).2.1;have h4:=im_len f;have hx:CZ p r L=if L.any (QV (CA p r))then 6 else if L.any Qe then 3 else 0:=by
    unfold CZ;rw[Jf f,Jf g]
   refine⟨(0:Nat),⟨Js _,λj hj=>E4⟩,?_,?_⟩
   .exact X0d
   .intro i n;obtain⟨I,o⟩:=n;have E:=Pp m.1 i;have J:i<L.length->∀v∈(L.getD i AA.d).l,0<=v/\v<(CA p r).length:=λn v K=>by
     have:=G i n v K;omega
    refine X0a _ ?_;(repeat' first|constructor|intro h)<;>refine Lm ?_
    all_goals(try simp only[In,RT.lst_row]at*)
    all_goals(first
     |exact As
     |skip)
    .refine⟨⟨⟨rfl,?_⟩,rfl⟩,⟨AC.isL_row _,E⟩,J E4⟩;first|trivial|rfl|(rw[RT.lst_row])
    .have b:QV (CA p r) (L.getD i AA.d)=true:=E8;rw[hx,Jf];refine Jz.2 ⟨L.getD i AA.d,?_,b⟩;rw[Jd,Je E4];exact Kd _
    .have b:QV (CA p r) (L.getD i AA.d)=false:=E8;refine⟨i+1,⟨E4,λj hj=> ?_⟩,E4,?_⟩
     .by_cases e:j<i
      .exact o j e
      .have:j=i:=E4;subst this;exact b
     .exact X0e
    .have B:L.any (QV (CA p r))=false:=by
      rw[Jy];intro s hs;obtain⟨j,hj,rfl⟩:=K7.1 hs;have:=o j E4;rw[Jd,Je hj]at this;simpa using this
     rw[Jg (by simp[B])]at hx;refine⟨(0:Nat),⟨Js _,λj hj=>E4⟩,?_,?_⟩
     .exact X0e
     .intro i n;obtain⟨I,o⟩:=n;have E:=Pp m.1 i;have w:0<=(L.getD i AA.d).c.q/\(L.getD i AA.d).c.q<=255:=by
       rw[Jd];cases C:L[i]? with
       |none=>exact(by decide:(0:Int)<=0/\(0:Int)<=255)
       |some s=>exact m.2.1 s (Jj C)
      refine X0a _ ?_;(repeat' first|constructor|intro h)<;>refine Lm ?_
      all_goals(try simp only[In]at*)
      all_goals(first
       |exact As
       |skip)
      .refine⟨(0:Nat),⟨Js _,λj hj=>E4⟩,?_,?_⟩
       .exact X0e
       .intro k C;obtain⟨gz,F⟩:=C;refine X0a _ ?_;(repeat' first|constructor|intro h)<;>refine Lm ?_
        all_goals(try simp only[In,b0i,Ya]at*)
        all_goals(first
         |omega
         |exact⟨w,Fd⟩
         |exact⟨w.1,w.2,E4,E4⟩
         |exact⟨w,E4,E4⟩
         |exact A9
         |skip)
        .have b:Qi (L.getD i AA.d).c k=true:=by
          have:¬GF (L.getD i AA.d).c.x (L.getD i AA.d).c.y (L.getD i AA.d).c.q (k:Int)=0:=E8;unfold Qi;rw[b0i];exact this
         rw[hx,Jf];refine Jz.2 ⟨L.getD i AA.d,?_,Jz.2 ⟨k,Ki.2 E4,b⟩⟩;rw[Jd,Je E4];exact Kd _
        .have b:Qi (L.getD i AA.d).c k=false:=by
          have:GF (L.getD i AA.d).c.x (L.getD i AA.d).c.y (L.getD i AA.d).c.q (k:Int)=0:=E8;unfold Qi;rw[Ya];exact this
         refine⟨k+1,⟨E4,λj hj=> ?_⟩,E4,?_⟩
         .by_cases e:j<k
          .exact F j e
          .have:j=k:=E4;subst this;exact b
         .exact X0e
        .have b:Qe (L.getD i AA.d)=false:=by
          unfold Qe;rw[Jy];intro j hj;have:=F j Hh;rw[this];exact Bool.false_ne_true
         refine⟨i+1,⟨E4,λj hj=> ?_⟩,E4,?_⟩
         .by_cases e:j<i
          .exact o j e
          .have:j=i:=E4;subst this;exact b
         .exact X0e
      .have B:L.any Qe=false:=by
        rw[Jy];intro s hs;obtain⟨j,hj,rfl⟩:=K7.1 hs;have:=o j E4;rw[Jd,Je hj]at this;simpa using this
       rw[hx,Jg (by simp[B])]
def BC(c:Cl):List Int:=[c.y,c.x,c.q]
theorem Ut(a b:Cl):FY a.x a.y a.q b.x b.y b.q=AZ (BC a) (BC b):=by
 simp only[FY,Re,AZ,BC,CT];repeat' split
 all_goals(first|rfl|omega)
theorem b95{a b:Cl}(h:BC a=BC b):a=b:=by simp only[BC,J7]at h;exact Cl.ext' h.2.1 h.1 h.2.2
theorem c6b{L:List Stk}(h:∀i,0<i->i<L.length->AZ (BC (L.getD (i-1) AA.d).c) (BC (L.getD i AA.d).c)<0):∀j i,i<j->j<L.length->AZ (BC (L.getD i AA.d).c) (BC (L.getD j AA.d).c)<0
 |0,i,b,_=>E4
 |j+1,i,b,f=>by
  have a:=h (j+1) E4 f;simp only[Nu]at a;by_cases e:i=j
  .subst e;exact a
  .exact RD _ _ _ (c6b h j i E4 E4) a
theorem b6s:∀(n:Nat) (l:List Int),l.Nodup->(∀x∈l,0<=x/\x<n)->l.length<=n
 |0,[],_,_=>Jm _
 |0,x::l,_,h=>by have:=h x E6;omega
 |n+1,l,a,h=>by
  by_cases e:(n:Int)∈l
  .have b:=b6s n (l.erase n) (a.erase _) (λx hx=>by
    have:=(List.Nodup.mem_erase_iff a).1 hx;have:=h x this.2;omega)
   rw[List.length_erase_of_mem e]at b;omega
  .have:=b6s n l a (λx hx=>by
    have:=h x hx;have:x≠n:=λc=>e (c▸hx);omega)
   omega
theorem b63:∀{l:List Int},IE l=false->l.Nodup
 | [],_=>Na
 |x::l,h=>by simp only[IE,Lz]at h;exact Lc.2 ⟨by simpa using h.1,b63 h.2⟩
structure SkOK (p:Pt) (r:Mv) (L:List Stk):Prop where
 hs:AO p.W p.H=0
 P:PlOK p r
 lt:∀i j,i<j->j<L.length->AZ (BC (L.getD i AA.d).c) (BC (L.getD j AA.d).c)<0
 vc:∀s∈L,vC s.c
 ne:∀s∈L,s.l≠[]
 nd:(BX L).Nodup
 rg:∀v∈BX L,0<=v/\v<4*p.W*p.H
 all:∀u:Int,0<=u->u<4*p.W*p.H->u∈BX L
 im:∀s∈L,∀v∈s.l,(CA p r).getD v.toNat Co.d=s.c
 nb:∀s∈L,∀e:Int,0<=e->e<3->GF s.c.x s.c.y s.c.q e=0
theorem CY{α:Type}{l:List α}{i:Nat}{d:α}(h:i<l.length):l.getD i d∈l:=by rw[Jd,Je h];exact Kd h
theorem QX{α:Type}{l:List α}{x d:α}(h:x∈l):∃i,i<l.length/\l.getD i d=x:=by obtain⟨i,a,e⟩:=K7.1 h;exact⟨i,a,by rw[Jd,Je a];exact e⟩
theorem YP{p:Pt}{r:Mv}{L:List Stk}(h:CZ p r L=0):CF p r=0/\JP p.W p.H L=0/\L.any (QV (CA p r))=false/\L.any Qe=false:=by
 unfold CZ at h;split at h
 .rename_i a;split at h
  .rename_i b;split at h
   .cases h
   .rename_i h3;split at h
    .cases h
    .rename_i h4;exact⟨a,b,Gs,Fp⟩
  .rename_i b;exact absurd h b
 .rename_i a;exact absurd h a
theorem f17{p:Pt}{r:Mv}{L:List Stk}(h:CZ p r L=0)(z:0<=r.t)(A:∀s∈L,AD .u8 s.c.q):SkOK p r L:=by
 obtain⟨B,C,E,F⟩:=YP h;obtain⟨hs,n,G,hl⟩:=b7j C;have I:=c13 n;have hc:EP p.W p.H=4*p.W*p.H:=by simp[EP,hs]
 have hN:=CQ hs;have o:=b63 G;have w:∀v∈BX L,0<=v/\v<4*p.W*p.H:=by intro v k;obtain⟨s,hs',J⟩:=List.mem_flatMap.1 k;obtain⟨i,a,rfl⟩:=QX (d:=AA.d) hs';have:=I i a v J;omega
 have b:∀i,i<L.length->(DQ (L.getD i AA.d).c.x (L.getD i AA.d).c.y (L.getD i AA.d).c.q=0/\(0<i->AZ (BC (L.getD (i-1) AA.d).c) (BC (L.getD i AA.d).c)<0))/\(L.getD i AA.d).l≠[]:=by
  intro i a;have:=n i a;unfold KY at this;simp only[Lz,Bool.and_eq_false_iff,Bool.not_eq_false',Iv]at this;obtain⟨⟨⟨g1,f⟩,K⟩,_⟩:=this;refine⟨⟨g1,λm=> ?_⟩,λe=>K (by rw[e];rfl)⟩;rw[<-Ut];have e:((i:Int)-1).toNat=i-1:=E4;rw[e]at f;rcases f with f|f
  .exact absurd E4 f
  .omega
 refine⟨hs,Rt z B,λi j M N=>c6b (λi m a=>(b i a).1.2 m) j i M N,λs hs'=> ?_,λs hs'=> ?_,o,w,λu m hu=> ?_,λs hs' v k=> ?_,λs hs' e jw he=> ?_⟩
 .obtain⟨i,a,rfl⟩:=QX (d:=AA.d) hs';have g:=(b i a).1.1;have f:=A _ hs';simp only[AD]at f;unfold DQ at g;split at g
  .unfold vC;omega
  .cases g
 .obtain⟨i,a,rfl⟩:=QX (d:=AA.d) hs';exact(b i a).2
 .apply Classical.byContradiction;intro O;have:=b6s (AF p.W p.H) (u::BX L) (Lc.2 ⟨O,o⟩) (λx hx=>by
   rcases Jt.1 hx with rfl|hx
   .omega
   .have:=w x hx;omega)
  simp only[Kx]at this;omega
 .have:=Jy.1 E s hs';unfold QV at this;have:=Jy.1 (by simpa using this:s.l.any (Ob (CA p r) s.c)=false) v k;simpa[Ob]using this
 .have:=Jy.1 F s hs';unfold Qe at this;have:=Jy.1 (by simpa using this:(List.range 3).any (Qi s.c)=false) e.toNat (Ki.2 E4)
  have P:((e.toNat:Nat):Int)=e:=E4;simpa[Qi,P]using this
def RK(h:List Int)(q:Int×Nat):List Int:=h.set q.1.toNat (q.2:Int)
def SE(L:List Stk):List (Int×Nat):=L.flatMap λs=>s.l.zipIdx
def IA(L:List Stk)(n:Nat):List Int:=(SE L).foldl RK (List.replicate n 0)
theorem b8v:∀(l:List (Int×Nat)) (h:List Int),(l.foldl RK h).length=h.length
 | [],_=>rfl
 |q::l,h=>by rw[Mg,b8v l];simp[RK]
theorem Xh(L:List Stk)(n:Nat):(IA L n).length=n:=by simp[IA,b8v]
theorem b73:∀(l:List (Int×Nat)) (h:List Int) (v:Int),0<=v->(∀q∈l,0<=q.1/\q.1≠v)->(l.foldl RK h).getD v.toNat 0=h.getD v.toNat 0
 | [],_,_,_,_=>rfl
 |q::l,h,v,b,a=>by rw[Mg,b73 l _ v b (λx hx=>a x En)];have:=a q E6;have c:q.1.toNat≠v.toNat:=E4;simp[RK,Ju c]
theorem c6r:∀(l:List (Int×Nat)) (h:List Int),(l.map (·.1)).Nodup->(∀q∈l,0<=q.1/\q.1<h.length)->∀q∈l,(l.foldl RK h).getD q.1.toNat 0=q.2
 | [],_,_,_,q,a=>by simp at a
 |x::l,h,b,c,q,a=>by
  rw[Mg];rw[L3,Lc]at b;rcases Jt.1 a with rfl|a
  .have hx:=c q E6;rw[b73 l _ q.1 hx.1 (λy hy=>⟨(c y Fk).1,λe=>b.1 (Jx.2 ⟨y,hy,e⟩)⟩)];have:q.1.toNat<h.length:=E4;simp[RK,this]
  .exact c6r l _ b.2 (λy hy=>by have:=c y Fk;simpa[RK]using this) q a
theorem c1v(L:List Stk):(SE L).map (·.1)=BX L:=by unfold SE BX;rw[List.map_flatMap];congr 1;funext s;simp
section
variable{p:Pt}{r:Mv}{L:List Stk}
theorem f8v(S:SkOK p r L){s:Stk}(hs:s∈L){k:Nat}(a:k<s.l.length):(IA L (AF p.W p.H)).getD (s.l.getD k 0).toNat 0=k:=by
 have hN:=CQ S.hs;have b:(s.l.getD k 0,k)∈SE L:=by refine List.mem_flatMap.2 ⟨s,hs,?_⟩;rw[List.mem_zipIdx_iff_getElem?];simp[a]
 have:=c6r (SE L) (List.replicate (AF p.W p.H) 0) (by rw[c1v];exact S.nd) (λq c=>by
  have d:q.1∈BX L:=by rw[<-c1v];exact Jx.2 ⟨q,c,rfl⟩
  have:=S.rg _ d;simp;omega) _ b
 exact this
theorem Xk(S:SkOK p r L){u:Int}(b:0<=u)(h:u<4*p.W*p.H):∃i k,i<L.length/\k<(L.getD i AA.d).l.length/\(L.getD i AA.d).l.getD k 0=u/\(CA p r).getD u.toNat Co.d=(L.getD i AA.d).c:=by obtain⟨s,hs,a⟩:=List.mem_flatMap.1 (S.all u b h);obtain⟨i,f,rfl⟩:=QX (d:=AA.d) hs;obtain⟨k,g,e⟩:=QX (d:=(0:Int)) a;exact⟨i,k,f,g,e,S.im _ hs _ a⟩
theorem f3z(S:SkOK p r L){u v:Int}(b:0<=u/\u<4*p.W*p.H)(c:0<=v/\v<4*p.W*p.H)(hi:(CA p r).getD u.toNat Co.d=(CA p r).getD v.toNat Co.d)
 (hh:(IA L (AF p.W p.H)).getD u.toNat 0=(IA L (AF p.W p.H)).getD v.toNat 0):u=v:=by
 obtain⟨i,k,a,g,e,l⟩:=Xk S b.1 b.2;obtain⟨j,m,n,o,f,q⟩:=Xk S c.1 c.2;rw[l,q]at hi;have s:i=j:=by
  rcases N2 i j with h|h|h
  .have:=S.lt i j h n;rw[hi,Rv]at this;omega
  .exact h
  .have:=S.lt j i h a;rw[hi,Rv]at this;omega
 subst s;have t:=f8v S (CY (d:=AA.d) a) g;have w:=f8v S (CY (d:=AA.d) a) o;rw[e]at t;rw[f]at w;have:k=m:=E4;subst this;rw[<-e,<-f]
theorem f85{m:Mv}{c:Cl}{e:Int}(a:vM m)(b:(-300<=c.x/\c.x<=300)/\(-300<=c.y/\c.y<=300)/\0<=c.q/\c.q<=3)(f:0<=e/\e<3):∃d,(0<=d/\d<3)/\CL m (AU c e)=AU (CL m c) d:=by
 have hb:=MW b.2.2 f;rw[Il a E4,Il a E4];obtain⟨X,Y,Q⟩:=c;simp only at b;refine⟨if e=0 then 0 else if m.t=0\/m.t=2\/m.t=5\/m.t=7 then e else 3-e,by split<;>(try split)<;>omega,?_⟩;rcases EW b.2.2 with rfl|rfl|rfl|rfl<;>rcases GZ f with rfl|rfl|rfl<;>rcases FW a with h|h|h|h|h|h|h|h<;>rw[h]<;>
  (simp[AU,sq,tq,EE,EJ,EL,tb];try omega)
theorem c0m{c:Cl}{e a:Int}(b:0<=c.q/\c.q<=3)(d:0<=e/\e<3)(f:0<=a/\a<3)(h:AU c e=AU c a):e=a:=by obtain⟨X,Y,Q⟩:=c;simp only at b;rcases EW b with rfl|rfl|rfl|rfl<;>rcases GZ d with rfl|rfl|rfl<;>rcases GZ f with rfl|rfl|rfl<;>first|rfl|(exfalso;revert h;simp[AU,EE,EJ,EL,tb])
theorem YC{c:Cl}{e:Int}(a:0<=c.q/\c.q<=3)(b:0<=e/\e<3):AU c e≠c:=by obtain⟨X,Y,Q⟩:=c;simp only at a;rcases EW a with rfl|rfl|rfl|rfl<;>rcases GZ b with rfl|rfl|rfl<;>(intro h;revert h;simp[AU,EE,EJ,EL,tb])
def CO(p:Pt)(r:Mv)(u:Int):Cl:=(CA p r).getD u.toNat Co.d
def AM(p:Pt)(r:Mv)(u:Int):Mv:=(BR p r).getD u.toNat AE.d
def GD(p:Pt)(r:Mv)(u e:Int):Cl:=CL (AM p r u) (AU (AJ p.W p.H u) e)
theorem WD(hs:AO p.W p.H=0){u:Int}(a:0<=u)(h:u<4*p.W*p.H):(-300<=(AJ p.W p.H u).x/\(AJ p.W p.H u).x<=300)/\(-300<=(AJ p.W p.H u).y/\(AJ p.W p.H u).y<=300)/\0<=(AJ p.W p.H u).q/\(AJ p.W p.H u).q<=3:=by have:=PP hs a h;omega
theorem Tz(S:SkOK p r L){u:Int}(h0:0<=u)(h:u<4*p.W*p.H):CO p r u=CL (AM p r u) (AJ p.W p.H u)/\vM (AM p r u)/\vC (CO p r u):=by have hN:=CQ S.hs;have a:=S.P.im u.toNat E4;have e:((u.toNat:Nat):Int)=u:=E4;rw[e]at a;exact⟨a.1,S.P.vm _ E4,a.2⟩
theorem Xm(S:SkOK p r L){u e:Int}(f:0<=u)(h:u<4*p.W*p.H)(m:0<=e/\e<3):vC (GD p r u e)/\GD p r u e≠CO p r u/\∃a,(0<=a/\a<3)/\GD p r u e=AU (CO p r u) a:=by
 obtain⟨g1,n,l⟩:=Tz S f h;obtain⟨a,c,o⟩:=f85 n (WD S.hs f h) m;have g:GD p r u e=AU (CO p r u) a:=by rw[g1];exact o
 obtain⟨i,k,s,hk,hu,t⟩:=Xk S f h;have b:=S.nb _ (CY (d:=AA.d) s) a c.1 c.2;rw[<-t]at b;refine⟨?_,?_,a,c,g⟩
 .rw[g];have hb:=MW l.2.2 c;unfold GF at b;split at b
  .split at b
   .rename_i j;unfold DQ at j;split at j
    .rename_i v;unfold vC;have:(AU (CO p r u) a).x=EE (CO p r u).q a+(CO p r u).x:=rfl;have:(AU (CO p r u) a).y=EJ (CO p r u).q a+(CO p r u).y:=rfl;have h7: -4096<=EE (CO p r u).q a+(CO p r u).x/\EE (CO p r u).q a+(CO p r u).x<=4096/\ -4096<=EJ (CO p r u).q a+(CO p r u).y/\EJ (CO p r u).q a+(CO p r u).y<=4096/\EL (CO p r u).q a<=3:=v;omega
    .cases j
   .cases b
  .cases b
 .rw[g];exact YC l.2.2 c
theorem g00(S:SkOK p r L){u e a:Int}(b:0<=u)(h:u<4*p.W*p.H)(d:0<=e/\e<3)(f:0<=a/\a<3)(g:GD p r u e=GD p r u a):e=a:=by obtain⟨g1,i,g3⟩:=Tz S b h;have hc:=JJ S.hs b h;have c:=WD S.hs b h;have b1:=MW c.2.2 d;have b2:=MW c.2.2 f;exact c0m c.2.2 d f (d0r i Fw Fw g)
end
end Go.Proofs.YtaihldljnlgnoaaGreatDoor.V
