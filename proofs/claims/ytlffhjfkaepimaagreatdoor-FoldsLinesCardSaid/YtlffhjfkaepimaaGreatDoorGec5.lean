/-
  Parts of the proof: N1 P7 A15 B0 A16 A1 A2 A3 P1 P2 A4 P4 A5 P3 P8 P9 C1 C2 A6 A7 P10 A8 A9 C3 Q1 Q3 C4 C5 C6 C7 Q4 A22 C8 A10 A11 A12a D1 A12 A13 D2 D3 A14 D4 A18 A19 A20 A21. Conditions: none.
-/
import Derived.Test.YtlffhjfkaepimaaGreatDoorGec3
import Derived.Test.YtlffhjfkaepimaaGreatDoorChecked
import Derived.Shelf.SlSortCmp.NoneTotal
import Derived.Shelf.Lay
import Derived.Ground.SlsfProg
import Derived.Shelf.SortM.Plain
import Derived.Shelf.SortM.SortNone
import Derived.Ground.SlgmProg
set_option maxRecDepth 100000
set_option maxHeartbeats 40000000
namespace Go.Proofs
open Go Go.Lib Go.RowKit Go.Shelf Go.Sort
shelf_lay_g SlLaysF0.n6 Slsf 6 at Tryz 157 as Tryz.sortPass
shelf_lay_g SlLaysF0.n6 Slsf 6 at Tryz 159 as Tryz.sortLoop
shelf_lay_g SlLaysM.n5 Slgm 5 at Tryz 161 as Tryz.sortInts
end Go.Proofs
namespace Go.Proofs.YtlffhjfkaepimaaGreatDoor.V
open Go
def SL:AH
 | []=>some (True,.bool true)
 |_=>none
theorem g2r(F:Fam)(b:∀i,F.res i=.bool true)(c:∀i,BK (F.args i) (F.args i)):Qv F (Pv F):=λzs p s a hp=>by
 unfold Pv at a;split at a
 .rename_i d;obtain⟨i,e,rfl⟩:=d;cases a;exact⟨i,c i,e,(b i).symm⟩
 .cases a
structure Cr where
 c:Int
 e:Int
 k:Int
 deriving DecidableEq
def d0:Cr:=⟨0,0,0⟩
def Ys(x:Cr):List SV:=[.int .i64 x.c,.int .u8 x.e,.int .u8 x.k]
def crOf:List SV->Cr
 | [.int _ a,.int _ b,.int _ c]=>⟨a,b,c⟩
 |_=>d0
def Eo(l:List Cr)(i:Nat):List SV:=Ys (l.getD i d0)
def FX(n:Nat)(f:Nat->List SV):List Cr:=(List.range n).map λi=>crOf (f i)
def MI(n:Nat)(f:Nat->List SV):Prop:=∀i,i<n->f i=Ys (crOf (f i))
def Po:SV->Option (Nat×(Nat->List SV))
 |.sl 3 n f _=>some (n,f)
 |.con (.slice none 0 0)=>some (0,λ_=>[])
 |_=>none
theorem FT(l:List Cr):MI l.length (Eo l):=λ_ _=>rfl
theorem TY(n:Nat)(f:Nat->List SV):(FX n f).length=n:=by simp[FX]
theorem d56{n:Nat}{f:Nat->List SV}(h:MI n f):∀i,i<n->f i=Eo (FX n f) i:=by intro i a;rw[h i a];simp[Eo,FX,a]
theorem CE(l:List Cr):FX l.length (Eo l)=l:=by
 apply Mh;intro i;by_cases a:i<l.length
 .simp[FX,Eo,a,Ys,crOf]
 .simp at a;simp[FX,a]
theorem JL{s:SV}{sz n:Nat}{f:Nat->List SV}{c:Option Nat}(h:s.le0 (.sl sz n f c)):s.le2 (.sl sz n f c):=by cases s<;>exact h
theorem TP{s:SV}{n:Nat}{f:Nat->List SV}(h:Po s=some (n,f))(a:MI n f):SV.le0 s (.sl 3 (FX n f).length (Eo (FX n f)) none):=by
 unfold Po at h;split at h
 .cases h;simp only[SV.le0,HN,TY,L1,O5];exact SH (d56 a)
 .cases h;simp[SV.le0,FX,HN]
 .cases h
theorem d5i{sz n:Nat}{f:Nat->List SV}(c:Option Nat):SV.le0 (.sl sz n f c) (.sl sz n f none):=by simp only[SV.le0,HN,L1,O5];exact λi hi=>.inl rfl
theorem d0h(sz:Nat){f:Nat->List SV}:SV.le0 (.con (.slice none 0 0)) (.sl sz 0 f none):=by simp[SV.le0,HN]
theorem MQ{b n:Nat}(h:Nat.ble b 128=true)(a:n*128<=140737488355328):n*b<=140737488355328:=
 Lr (Nat.mul_le_mul_left _ (Nat.le_of_ble_eq_true h)) a
def Xd:AH
 | [.sl 1 n f _]=>some (n<=100000,.sl 1 n f (some n))
 | [.con (.slice none 0 0)]=>some (True,.sl 1 0 (λ_=>[]) (some 0))
 |_=>none
def f36:Fam:=⟨Nat×(Nat->List SV),λ(n,f)=>[.sl 1 n f none],λ(n,_)=>n<=100000,λ(n,f)=>.sl 1 n f (some n)⟩
theorem c1d:PS 120 Xd:=by
 refine con [] E2 f36 (λ_ _=>none) Xd ?_ ?_ Tryz.func120 E1 E1 E1 ?_
 .intro args pre s h hp;unfold Xd at h;split at h
  .rename_i n f c;cases h;exact C3
  .cases h;exact C6
  .cases h
 .exact C0
 .rintro⟨n,f⟩ hp;replace hp:n<=100000:=hp;refine X0a _ ?_;(repeat' first|constructor|intro h)<;>refine Lm ?_
  all_goals(first
   |exact Ar
   |(show some ((n:Int)-0).toNat=some n;congr 1)
   |(intro i hi;congr 1;simp;done)
   |skip)
def b1b:AH
 | [.sl 1 n f _]=>some (n<=100000,.sl 1 n f none)
 | [.con (.slice none 0 0)]=>some (True,.sl 1 0 (λ_=>[]) none)
 |_=>none
def d3p:Fam:=⟨Nat×(Nat->List SV),λ(n,f)=>[.sl 1 n f none],λ(n,_)=>n<=100000,λ(n,f)=>.sl 1 n f none⟩
theorem c2c:PS 121 b1b:=by
 refine con [] E2 d3p (λ_ _=>none) b1b ?_ ?_ Tryz.func121 E1 E1 E1 ?_
 .intro args pre s h hp;unfold b1b at h;split at h
  .rename_i n f c;cases h;exact C3
  .cases h;exact C6
  .cases h
 .exact C0
 .rintro⟨n,f⟩ hp;replace hp:n<=100000:=hp;refine X0a _ ?_;(repeat' first|constructor|intro h)<;>refine Lm ?_
  all_goals(first
   |omega
   |exact Bh
   |(intro i hi;simp;done)
   |skip)
def Yj:AH
 | [.sl 4 n f _]=>some (n<=100000,.sl 4 n f (some n))
 | [.con (.slice none 0 0)]=>some (True,.sl 4 0 (λ_=>[]) (some 0))
 |_=>none
def d1b:Fam:=⟨Nat×(Nat->List SV),λ(n,f)=>[.sl 4 n f none],λ(n,_)=>n<=100000,λ(n,f)=>.sl 4 n f (some n)⟩
theorem b8m:PS 61 Yj:=by
 refine con [] E2 d1b (λ_ _=>none) Yj ?_ ?_ Tryz.func61 E1 E1 E1 ?_
 .intro args pre s h hp;unfold Yj at h;split at h
  .rename_i n f c;cases h;exact C3
  .cases h;exact C6
  .cases h
 .exact C0
 .rintro⟨n,f⟩ hp;replace hp:n<=100000:=hp;refine X0a _ ?_;(repeat' first|constructor|intro h)<;>refine Lm ?_
  all_goals(first
   |exact Ar
   |(show some ((n:Int)-0).toNat=some n;congr 1)
   |(intro i hi;congr 1;simp;done)
   |skip)
def b0v:AH
 | [.sl 4 n f _]=>some (n<=100000,.sl 4 n f none)
 | [.con (.slice none 0 0)]=>some (True,.sl 4 0 (λ_=>[]) none)
 |_=>none
def c4y:Fam:=⟨Nat×(Nat->List SV),λ(n,f)=>[.sl 4 n f none],λ(n,_)=>n<=100000,λ(n,f)=>.sl 4 n f none⟩
theorem c6q:PS 78 b0v:=by
 refine con [] E2 c4y (λ_ _=>none) b0v ?_ ?_ Tryz.func78 E1 E1 E1 ?_
 .intro args pre s h hp;unfold b0v at h;split at h
  .rename_i n f c;cases h;exact C3
  .cases h;exact C6
  .cases h
 .exact C0
 .rintro⟨n,f⟩ hp;replace hp:n<=100000:=hp;refine X0a _ ?_;(repeat' first|constructor|intro h)<;>refine Lm ?_
  all_goals(first
   |omega
   |exact Bh
   |(intro i hi;simp;done)
   |skip)
def b2i:AH
 | [.sl 2 n f _]=>some (n<=100000,.sl 2 n f (some n))
 | [.con (.slice none 0 0)]=>some (True,.sl 2 0 (λ_=>[]) (some 0))
 |_=>none
def d33:Fam:=⟨Nat×(Nat->List SV),λ(n,f)=>[.sl 2 n f none],λ(n,_)=>n<=100000,λ(n,f)=>.sl 2 n f (some n)⟩
theorem d6h:PS 40 b2i:=by
 refine con [] E2 d33 (λ_ _=>none) b2i ?_ ?_ Tryz.func40 E1 E1 E1 ?_
 .intro args pre s h hp;unfold b2i at h;split at h
  .rename_i n f c;cases h;exact C3
  .cases h;exact C6
  .cases h
 .exact C0
 .rintro⟨n,f⟩ hp;replace hp:n<=100000:=hp;refine X0a _ ?_;(repeat' first|constructor|intro h)<;>refine Lm ?_
  all_goals(first
   |exact Ar
   |(show some ((n:Int)-0).toNat=some n;congr 1)
   |(intro i hi;congr 1;simp;done)
   |skip)
def b10:AH
 | [.sl 3 n f _]=>some (n<=100000,.sl 3 n f (some n))
 | [.con (.slice none 0 0)]=>some (True,.sl 3 0 (λ_=>[]) (some 0))
 |_=>none
def c58:Fam:=⟨Nat×(Nat->List SV),λ(n,f)=>[.sl 3 n f none],λ(n,_)=>n<=100000,λ(n,f)=>.sl 3 n f (some n)⟩
theorem c4t:PS 85 b10:=by
 refine con [] E2 c58 (λ_ _=>none) b10 ?_ ?_ Tryz.func85 E1 E1 E1 ?_
 .intro args pre s h hp;unfold b10 at h;split at h
  .rename_i n f c;cases h;exact C3
  .cases h;exact C6
  .cases h
 .exact C0
 .rintro⟨n,f⟩ hp;replace hp:n<=100000:=hp;refine X0a _ ?_;(repeat' first|constructor|intro h)<;>refine Lm ?_
  all_goals(first
   |exact Ar
   |(show some ((n:Int)-0).toNat=some n;congr 1)
   |(intro i hi;congr 1;simp;done)
   |skip)
def b2m:AH
 | [.sl 2 n f _]=>some (n<=100000,.sl 2 n f (some n))
 | [.con (.slice none 0 0)]=>some (True,.sl 2 0 (λ_=>[]) (some 0))
 |_=>none
def d2x:Fam:=⟨Nat×(Nat->List SV),λ(n,f)=>[.sl 2 n f none],λ(n,_)=>n<=100000,λ(n,f)=>.sl 2 n f (some n)⟩
theorem d7n:PS 162 b2m:=by
 refine con [] E2 d2x (λ_ _=>none) b2m ?_ ?_ Tryz.func162 E1 E1 E1 ?_
 .intro args pre s h hp;unfold b2m at h;split at h
  .rename_i n f c;cases h;exact C3
  .cases h;exact C6
  .cases h
 .exact C0
 .rintro⟨n,f⟩ hp;replace hp:n<=100000:=hp;refine X0a _ ?_;(repeat' first|constructor|intro h)<;>refine Lm ?_
  all_goals(first
   |exact Ar
   |(show some ((n:Int)-0).toNat=some n;congr 1)
   |(intro i hi;congr 1;simp;done)
   |skip)
def b2k:AH
 | [.sl 3 n f _]=>some (n<=100000,.sl 3 n f (some n))
 | [.con (.slice none 0 0)]=>some (True,.sl 3 0 (λ_=>[]) (some 0))
 |_=>none
def d9n:Fam:=⟨Nat×(Nat->List SV),λ(n,f)=>[.sl 3 n f none],λ(n,_)=>n<=100000,λ(n,f)=>.sl 3 n f (some n)⟩
theorem d53:PS 164 b2k:=by
 refine con [] E2 d9n (λ_ _=>none) b2k ?_ ?_ Tryz.func164 E1 E1 E1 ?_
 .intro args pre s h hp;unfold b2k at h;split at h
  .rename_i n f c;cases h;exact C3
  .cases h;exact C6
  .cases h
 .exact C0
 .rintro⟨n,f⟩ hp;replace hp:n<=100000:=hp;refine X0a _ ?_;(repeat' first|constructor|intro h)<;>refine Lm ?_
  all_goals(first
   |exact Ar
   |(show some ((n:Int)-0).toNat=some n;congr 1)
   |(intro i hi;congr 1;simp;done)
   |skip)
structure RT (α:Type)where
 sz:Nat
 sv:α->List SV
 of:List SV->α
 d:α
 ok:∀x,of (sv x)=x
def RT.row{α:Type}(R:RT α)(l:List α)(i:Nat):List SV:=R.sv (l.getD i R.d)
def RT.lst{α:Type}(R:RT α)(n:Nat)(f:Nat->List SV):List α:=(List.range n).map λi=>R.of (f i)
def RT.is{α:Type}(R:RT α)(n:Nat)(f:Nat->List SV):Prop:=∀i,i<n->f i=R.sv (R.of (f i))
theorem RT.is_row{α:Type}(R:RT α)(l:List α):R.is l.length (R.row l):=λi _=>by simp only[RT.row,R.ok]
theorem RT.lst_length{α:Type}(R:RT α)(n:Nat)(f:Nat->List SV):(R.lst n f).length=n:=by simp[RT.lst]
theorem RT.row_lst{α:Type}(R:RT α){n:Nat}{f:Nat->List SV}(h:R.is n f):∀i,i<n->f i=R.row (R.lst n f) i:=by intro i a;rw[h i a];simp[RT.row,RT.lst,a]
theorem RT.lst_row{α:Type}(R:RT α)(l:List α):R.lst l.length (R.row l)=l:=by
 apply Mh;intro i;by_cases a:i<l.length
 .simp[RT.lst,RT.row,a,R.ok]
 .simp at a;simp[RT.lst,a]
def RT.as{α:Type}(R:RT α):SV->Option (Nat×(Nat->List SV))
 |.sl a n f _=>if a=R.sz then some (n,f)else none
 |.con (.slice none 0 0)=>some (0,λ_=>[])
 |_=>none
theorem RT.as_le{α:Type}(R:RT α){s:SV}{n:Nat}{f:Nat->List SV}(h:R.as s=some (n,f))(a:R.is n f):SV.le0 s (.sl R.sz (R.lst n f).length (R.row (R.lst n f)) none):=by
 unfold RT.as at h;split at h
 .split at h
  .rename_i b;cases h;simp only[SV.le0,HN,RT.lst_length,b,O5];exact⟨Jm,SH (R.row_lst a)⟩
  .cases h
 .cases h;simp[SV.le0,RT.lst,HN]
 .cases h
structure Mv where
 t:Int
 x:Int
 y:Int
 deriving DecidableEq
def AG:RT Mv:=⟨3,λm=>[.int .u8 m.t,.int .i64 m.x,.int .i64 m.y],λl=>match l with
 | [.int _ a,.int _ b,.int _ c]=>⟨a,b,c⟩
 |_=>⟨0,0,0⟩,⟨0,0,0⟩,λ_=>rfl⟩
def AC:RT Int:=⟨1,λn=>[.int .i64 n],λl=>match l with
 | [.int _ a]=>a
 |_=>0,0,λ_=>rfl⟩
def EJ:RT Bool:=⟨1,λb=>[.bool b],λl=>match l with
 | [.bool b]=>b
 |_=>false,false,λ_=>rfl⟩
theorem b19{α:Type}(R:RT α){l:List α}{n j:Nat}{m:α}(h:n<l.length)(e:j=n):R.row (l.set n m) j=R.sv m:=by subst e;simp[RT.row,h]
theorem b3v{α:Type}(R:RT α){l:List α}{n j:Nat}{m:α}(e:¬j=n):R.row (l.set n m) j=R.row l j:=by simp only[RT.row,Jg,Jz (Ne.symm e)]
theorem b0e{α:Type}(R:RT α){l r:List α}{j:Nat}(h:j<l.length):R.row (l++r) j=R.row l j:=by simp only[RT.row,Jg,Jt h]
theorem b0d{α:Type}(R:RT α){l:List α}{x:α}:R.row (l++[x]) l.length=R.sv x:=by simp[RT.row]
theorem f1d{α:Type}(R:RT α)(x:α)(r:List α)(j:Nat):R.row (x::r) (1+j)=R.row r j:=by rw[Nat.add_comm];rfl
theorem Rj{b:Nat}{n:Int}(h:Nat.ble b 128=true)(a:0<=n)(c:128*n<=281474976710656):(b:Int)*n<=281474976710656:=by have:b<=128:=Nat.le_of_ble_eq_true h;exact Int.le_trans (Int.mul_le_mul_of_nonneg_right Dz a) c
def upto{α:Type}(A B:Nat->α)(i j:Nat):α:=if j<i then A j else B j
theorem b2x{α:Type}(R:RT α)(c:∀a b,EN true (R.sv a) (R.sv b)=R.sv a)(d:∀a b,EN false (R.sv a) (R.sv b)=R.sv b)(A B:Nat->α)(i j:Nat):
 EN (decide (j=i)) (R.sv (A i)) (R.sv (upto A B i j))=R.sv (upto A B (i+1) j):=by
 by_cases e:j=i
 .subst e;rw[K3 rfl,c];simp[upto]
 .rw[K4 e,d];by_cases h:j<i
  .simp[upto,h,show j<i+1 from Dz]
  .simp[upto,h,show¬j<i+1 from Dz]
theorem b36{α:Type}(A B:Nat->α)(j:Nat):upto A B 0 j=B j:=by simp[upto]
theorem YF{α:Type}(A B:Nat->α){i j:Nat}(h:j<i):upto A B i j=A j:=by simp[upto,h]
theorem b7j{α:Type}(A B:Nat->α){i j:Nat}(h:i<=j):upto A B i j=B j:=by simp[upto,show¬j<i from Dz]
def Ml(f:Nat->Int):Nat->Nat->Int
 |0,_=>0
 |n+1,i=>if f i=0 then Ml f n (i+1)else f i
theorem b6r{f:Nat->Int}:∀{n i:Nat},Ml f n i=0->∀j,i<=j->j<i+n->f j=0
 |0,i,_,j,b,c=>Dz
 |n+1,i,h,j,b,c=>by
  simp only[Ml]at h;split at h
  .rename_i a;by_cases e:j=i
   .rw[e];exact a
   .exact b6r h j Dz Dz
  .rename_i a;exact absurd h a
structure Cl where
 x:Int
 y:Int
 q:Int
 deriving DecidableEq
def CJ:RT Cl:=⟨3,λc=>[.int .i64 c.x,.int .i64 c.y,.int .u8 c.q],λl=>match l with
 | [.int _ a,.int _ b,.int _ c]=>⟨a,b,c⟩
 |_=>⟨0,0,0⟩,⟨0,0,0⟩,λ_=>rfl⟩
structure Stk where
 c:Cl
 l:List Int
 deriving DecidableEq
def stOf:List SV->Stk
 | [.int _ a,.int _ b,.int _ c,s]=>⟨⟨a,b,c⟩,match AC.as s with|some (n,f)=>AC.lst n f|none=>[]⟩
 |_=>⟨⟨0,0,0⟩,[]⟩
def AA:RT Stk:=⟨4,λs=>[.int .i64 s.c.x,.int .i64 s.c.y,.int .u8 s.c.q,.sl 1 s.l.length (AC.row s.l) none],stOf,⟨⟨0,0,0⟩,[]⟩,λs=>by have:AC.lst s.l.length (AC.row s.l)=s.l:=RT.lst_row _ _;show stOf [.int .i64 s.c.x,.int .i64 s.c.y,.int .u8 s.c.q,.sl 1 s.l.length (AC.row s.l) none]=s;have h:AC.as (.sl 1 s.l.length (AC.row s.l) none)=some (s.l.length,AC.row s.l):=rfl;simp only[stOf,h,this]⟩
def RT.isL{α:Type}(R:RT α)(n:Nat)(f:Nat->List SV):Prop:=∀i,i<n->Hl (f i) (R.sv (R.of (f i)))
theorem RT.isL_row{α:Type}(R:RT α)(l:List α):R.isL l.length (R.row l):=λi _=>.inl (by simp only[RT.row,R.ok])
theorem RT.as_leL{α:Type}(R:RT α){s:SV}{n:Nat}{f:Nat->List SV}(h:R.as s=some (n,f))(a:R.isL n f):SV.le0 s (.sl R.sz (R.lst n f).length (R.row (R.lst n f)) none):=by
 unfold RT.as at h;split at h
 .split at h
  .rename_i b;cases h;simp only[SV.le0,HN,RT.lst_length,b,O5];refine⟨Jm,λi hi=> ?_⟩;have:=a i hi;have e:R.row (R.lst n f) i=R.sv (R.of (f i)):=Id;rw[e];exact this
  .cases h
 .cases h;simp[SV.le0,RT.lst,HN]
 .cases h
def CA(l:List Int)(v:Int):Int:=match l.findIdx? (λx=>decide (x=v))with
 |some i=>i
 |none=> -1
theorem c8w{l:List Int}{v:Int}{i:Nat}(hi:i<l.length)(h:∀j,j<i->l.getD j 0≠v)(a:l.getD i 0=v):CA l v=i:=by
 have:l.findIdx? (λx=>decide (x=v))=some i:=by
  rw[L7];refine⟨hi,?_,λj b=> ?_⟩
  .simpa[Jg,hi]using a
  .have:=h j b;have c:j<l.length:=Dz;simpa[Jg,c]using this
 simp[CA,this]
theorem d82{l:List Int}{v:Int}(h:∀j,j<l.length->l.getD j 0≠v):CA l v= -1:=by
 have:l.findIdx? (λx=>decide (x=v))=none:=by rw[Lu];intro x hx;obtain⟨j,a,rfl⟩:=Kg.1 hx;have:=h j a;simpa[Jg,a]using this
 simp[CA,this]
def c05:AH
 | [x,.int .i64 v]=>match AC.as x with
   |some (n,f)=>some (AC.isL n f/\n<=100000,.int .i64 (CA (AC.lst n f) v))
   |none=>none
 |_=>none
def d3h:Fam:=⟨List Int×Int,λ(l,v)=>[.sl 1 l.length (AC.row l) none,.int .i64 v],λ(l,_)=>l.length<=100000,λ(l,v)=>.int .i64 (CA l v)⟩
def g3k:List Int×Int->Nat->Option Inv
 |(l,v),2=>some {β:=Nat,ok:=λi=>i<=l.length/\∀j,j<i->l.getD j 0≠v,st:=λi=>⟨[⟨8,none,.int .i64 i⟩,⟨7,none,.int .i64 l.length⟩,⟨1,none,.int .i64 v⟩,⟨0,none,.sl 1 l.length (AC.row l) none⟩],[]⟩,μ:=λi=>l.length-i}
 |_,_=>none
theorem g47:PS 167 c05:=by
 refine con [] E2 d3h g3k c05 ?_ ?_ Tryz.func167 E1 E1 E1 ?_
 .intro args pre s h a;unfold c05 at h;split at h
  .split at h
   .rename_i n f hx;cases h;exact⟨(AC.lst n f,_),⟨JL (AC.as_leL hx a.1),Ea,Jm⟩,by simp only[d3h,RT.lst_length];exact a.2,rfl⟩
   .cases h
  .cases h
 .exact Bz
 .rintro⟨l,v⟩ a;replace a:l.length<=100000:=a;refine X0a _ ?_;(repeat' first|constructor|intro h)<;>refine Lm ?_
  refine⟨(0:Nat),⟨Jw _,λj g=>Dz⟩,?_,?_⟩
  .exact X0d
  .intro i k;obtain⟨dj,c⟩:=k;refine X0a _ ?_;(repeat' first|constructor|intro h)<;>refine Lm ?_
   all_goals(try simp only[Ir]at*)
   all_goals(first
    |exact Ap
    |(refine(c8w Dz c ?_).symm;exact(by assumption:v=l.getD i AC.d).symm)
    |(refine⟨i+1,⟨Dz,λj g=> ?_⟩,Ed,?_⟩)
    |(refine(d82 λj g=> ?_).symm;exact c j Dz)
    |skip)
   .by_cases e:j<i
    .exact c j e
    .have:j=i:=Dz;subst this;have q:¬v=l.getD j AC.d:=E5;exact λe=>q e.symm
   .exact X0e
def b73:AH
 | [.agg [.int .i64 a,.int .i64 b,.int .u8 c,x]]=>match AC.as x with
   |some (n,f)=>some (AC.isL n f/\n<=100000,.agg [.int .i64 a,.int .i64 b,.int .u8 c,.sl 1 (AC.lst n f).length (AC.row (AC.lst n f)) (some (AC.lst n f).length)])
   |none=>none
 |_=>none
def d7c:Fam:=⟨Stk,λs=>[.agg [.int .i64 s.c.x,.int .i64 s.c.y,.int .u8 s.c.q,.sl 1 s.l.length (AC.row s.l) none]],λs=>s.l.length<=100000,λs=>.agg [.int .i64 s.c.x,.int .i64 s.c.y,.int .u8 s.c.q,.sl 1 s.l.length (AC.row s.l) (some s.l.length)]⟩
theorem d4s:PS 60 b73:=by
 refine con [(121,b1b),(120,Xd)] (by simpa using⟨c2c,c1d⟩) d7c (λ_ _=>none) b73 ?_ ?_ Tryz.func60 E1 E1 E1 ?_
 .intro args pre s h d;unfold b73 at h;split at h
  .split at h
   .rename_i a b c y q n f hx;cases h;exact⟨⟨⟨a,b,c⟩,AC.lst n f⟩,⟨⟨E7,E7,E7,AC.as_leL hx d.1,Jm⟩,Jm⟩,by simp only[d7c,RT.lst_length];exact d.2,rfl⟩
   .cases h
  .cases h
 .exact C0
 .rintro s d;replace d:s.l.length<=100000:=d;exact X0e
def LB(x:SV):Option (Prop×List Stk):=(AA.as x).map λq=>(AA.isL q.1 q.2/\q.1<=100000/\∀s∈AA.lst q.1 q.2,s.l.length<=100000,AA.lst q.1 q.2)
def CT(L:List Stk):Prop:=L.length<=100000/\∀s∈L,s.l.length<=100000
def EW(L:List Stk):SV:=.sl 4 L.length (AA.row L) none
theorem PC{x:SV}{q:Prop}{L:List Stk}(h:LB x=some (q,L))(hq:q):x.le2 (EW L)/\CT L:=by unfold LB at h;simp only[It]at h;obtain⟨⟨n,f⟩,hx,rfl,rfl⟩:=h;exact⟨JL (AA.as_leL hx hq.1),Hk,hq.2.2⟩
theorem MS(L:List Stk)(h:CT L):AA.isL L.length (AA.row L)/\L.length<=100000/\∀s∈L,s.l.length<=100000:=⟨AA.isL_row L,h⟩
theorem FS(L:List Stk):AA.lst L.length (AA.row L)=L:=RT.lst_row AA L
theorem Tz{L:List Stk}(h:CT L)(i:Nat):(L.getD i AA.d).l.length<=100000:=by
 rw[Jg];cases hg:L[i]? with
 |none=>show 0<=_;omega
 |some s=>exact h.2 s (Jn hg)
def AP(L:List Stk)(c:Cl):List Int:=match L.find? (λs=>decide (s.c=c))with
 |some s=>s.l
 |none=>[]
theorem b4f{L:List Stk}{c:Cl}{i:Nat}(hi:i<L.length)(h:∀j,j<i->(L.getD j AA.d).c≠c)(hc:(L.getD i AA.d).c=c):AP L c=(L.getD i AA.d).l:=by
 have:L.find? (λs=>decide (s.c=c))=some (L.getD i AA.d):=by rw[List.find?_eq_some_iff_getElem];refine⟨Ex,i,hi,by simp[hi],λj a=> ?_⟩;have:=h j a;have b:j<L.length:=Dz;simpa[Jg,b]using this
 simp[AP,this]
theorem c2t{L:List Stk}{c:Cl}(h:∀j,j<L.length->(L.getD j AA.d).c≠c):AP L c=[]:=by
 have:L.find? (λs=>decide (s.c=c))=none:=by rw[List.find?_eq_none];intro s hs;obtain⟨j,a,rfl⟩:=Kg.1 hs;have:=h j a;simpa[Jg,a]using this
 simp[AP,this]
theorem clEq(a b:Cl):(decide (a.x=b.x)&&(decide (a.y=b.y)&&(decide (a.q=b.q)&&true)))=decide (a=b):=by cases a;cases b;simp[Bool.decide_and]
def f35:AH
 | [x,.agg [.int .i64 a,.int .i64 b,.int .u8 c]]=>(LB x).map λq=>(q.1,.sl 1 (AP q.2 ⟨a,b,c⟩).length (AC.row (AP q.2 ⟨a,b,c⟩)) none)
 |_=>none
def FStAt:Fam:=⟨List Stk×Cl,λ(L,c)=>[EW L,.agg [.int .i64 c.x,.int .i64 c.y,.int .u8 c.q]],λ(L,_)=>CT L,λ(L,c)=>.sl 1 (AP L c).length (AC.row (AP L c)) none⟩
def IStAt:List Stk×Cl->Nat->Option Inv
 |(L,c),2=>some {β:=Nat,ok:=λi=>i<=L.length/\∀j,j<i->(L.getD j AA.d).c≠c,st:=λi=>⟨[⟨9,none,.int .i64 i⟩,⟨8,none,.int .i64 L.length⟩,⟨7,none,EW L⟩,⟨3,none,.own 0 0⟩],[.cells 103 [.int .i64 c.x,.int .i64 c.y,.int .u8 c.q]]⟩,μ:=λi=>L.length-i}
 |_,_=>none
theorem pStAt:PS 114 f35:=by
 refine con [(121,b1b),(120,Xd)] (by simpa using⟨c2c,c1d⟩) FStAt IStAt f35 ?_ ?_ Tryz.func114 E1 E1 E1 ?_
 .intro args pre s h d;unfold f35 at h;split at h
  .rename_i x a b c;simp only[It]at h;obtain⟨⟨q,L⟩,hx,rfl,rfl⟩:=h;obtain⟨l,m⟩:=PC hx d;exact⟨(L,⟨a,b,c⟩),⟨l,Ee,Jm⟩,m,rfl⟩
  .cases h
 .exact Bz
 .rintro⟨L,c⟩ d;replace d:CT L:=d;refine X0a _ ?_;(repeat' first|constructor|intro h)<;>refine Lm ?_
  refine⟨(0:Nat),⟨Jw _,λj k=>Dz⟩,?_,?_⟩
  .exact X0d
  .intro i n;obtain⟨dj,f⟩:=n;have hg:=Tz d i;have hl:=d.1;refine X0a _ ?_;(repeat' first|constructor|intro h)<;>refine Lm ?_
   all_goals(try simp only[Ir,clEq]at*)
   all_goals(first
    |exact Ap
    |(rw[b4f Dz f E5];done)
    |(intro j k;rw[b4f Dz f E5];done)
    |(refine⟨i+1,⟨Dz,λj k=> ?_⟩,Ed,?_⟩)
    |(rw[c2t λj k=>f j Dz];rfl)
    |skip)
   .by_cases e:j<i
    .exact f j e
    .have:j=i:=Dz;subst this;assumption
   .exact X0e
def AQ(k C:Int):Int:=if 1<=k/\k<=4/\ -4096<=C/\C<=4096 then 0 else 1
def Sj:AH
 | [.agg [.int .u8 k,.int .i64 C]]=>some (True,.int .i64 (AQ k C))
 |_=>none
def c72:Fam:=⟨Int×Int,λ(k,C)=>[.agg [.int .u8 k,.int .i64 C]],λ(_,_)=>True,λ(k,C)=>.int .i64 (AQ k C)⟩
theorem b2r:PS 46 Sj:=by
 refine con [] E2 c72 (λ_ _=>none) Sj ?_ ?_ Tryz.func46 E1 E1 E1 ?_
 .intro args pre s h a;unfold Sj at h;split at h
  .rename_i k C;cases h;exact⟨(k,C),by simp[c72,BK,SV.le2,SV.le1,BH,SV.le0],a,rfl⟩
  .cases h
 .exact C0
 .rintro⟨k,C⟩ a;replace a:True:=a;refine X0a _ ?_;(repeat' first|constructor|intro h)<;>refine Lm ?_
  all_goals(simp[AQ]at h⊢;omega)
def KJ(x y:Int):Int:=if -65536<=x/\x<=65536/\ -65536<=y/\y<=65536 then 0 else 1
def Yf:AH
 | [.agg [.int .i64 x,.int .i64 y]]=>some (True,.int .i64 (KJ x y))
 |_=>none
def c80:Fam:=⟨Int×Int,λ(x,y)=>[.agg [.int .i64 x,.int .i64 y]],λ(_,_)=>True,λ(x,y)=>.int .i64 (KJ x y)⟩
theorem d0u:PS 169 Yf:=by
 refine con [] E2 c80 (λ_ _=>none) Yf ?_ ?_ Tryz.func169 E1 E1 E1 ?_
 .intro args pre s h a;unfold Yf at h;split at h
  .rename_i x y;cases h;exact⟨(x,y),by simp[c80,BK,SV.le2,SV.le1,BH,SV.le0],a,rfl⟩
  .cases h
 .exact C0
 .rintro⟨x,y⟩ a;replace a:True:=a;refine X0a _ ?_;(repeat' first|constructor|intro h)<;>refine Lm ?_
  all_goals(simp[KJ]at h⊢;omega)
def NE(k x y:Int):Int:=if k=1 then x else if k=2 then y else if k=3 then x+y else y-x
def US:AH
 | [.int .u8 k,.agg [.int .i64 x,.int .i64 y]]=>some (AD .i64 (x+y)/\AD .i64 (y-x),.int .i64 (NE k x y))
 |_=>none
def f82:Fam:=⟨Int×Int×Int,λ(k,x,y)=>[.int .u8 k,.agg [.int .i64 x,.int .i64 y]],λ(_,x,y)=>AD .i64 (x+y)/\AD .i64 (y-x),λ(k,x,y)=>.int .i64 (NE k x y)⟩
theorem pAlong:PS 219 US:=by
 refine con [] E2 f82 (λ_ _=>none) US ?_ ?_ Tryz.func219 E1 E1 E1 ?_
 .intro args pre s h a;unfold US at h;split at h
  .rename_i k x y;cases h;exact⟨(k,x,y),by simp[f82,BK,SV.le2,SV.le1,BH,SV.le0],a,rfl⟩
  .cases h
 .exact Bz
 .rintro⟨k,x,y⟩ a;replace a:AD .i64 (x+y)/\AD .i64 (y-x):=a;refine X0a _ ?_;(repeat' first|constructor|intro h)<;>refine Lm ?_
  all_goals(first|exact a.1|exact a.2|(simp at*;simp[NE, *];done))
def kRl1:AH
 | [.agg [.int .i64 x,.int .i64 y]]=>some (AD .i64 (x+y)/\AD .i64 (y-x),.int .i64 (NE 1 x y))
 |_=>none
def FRl1:Fam:=⟨Int×Int,λ(x,y)=>[.agg [.int .i64 x,.int .i64 y]],λ(x,y)=>AD .i64 (x+y)/\AD .i64 (y-x),λ(x,y)=>.int .i64 (NE 1 x y)⟩
theorem pRl1:PS 218 kRl1:=by
 refine con [(219,US)] Gu FRl1 (λ_ _=>none) kRl1 ?_ ?_ Tryz.func218 E1 E1 E1 ?_
 .intro args pre s h a;unfold kRl1 at h;split at h
  .rename_i x y;cases h;exact⟨(x,y),by simp[FRl1,BK,SV.le2,SV.le1,BH,SV.le0],a,rfl⟩
  .cases h
 .exact C0
 .rintro⟨x,y⟩ a;replace a:AD .i64 (x+y)/\AD .i64 (y-x):=a;exact X0f
def kRl4:AH
 | [.agg [.int .i64 x,.int .i64 y]]=>some (AD .i64 (x+y)/\AD .i64 (y-x),.int .i64 (NE 2 x y))
 |_=>none
def FRl4:Fam:=⟨Int×Int,λ(x,y)=>[.agg [.int .i64 x,.int .i64 y]],λ(x,y)=>AD .i64 (x+y)/\AD .i64 (y-x),λ(x,y)=>.int .i64 (NE 2 x y)⟩
theorem pRl4:PS 222 kRl4:=by
 refine con [(219,US)] Gu FRl4 (λ_ _=>none) kRl4 ?_ ?_ Tryz.func222 E1 E1 E1 ?_
 .intro args pre s h a;unfold kRl4 at h;split at h
  .rename_i x y;cases h;exact⟨(x,y),by simp[FRl4,BK,SV.le2,SV.le1,BH,SV.le0],a,rfl⟩
  .cases h
 .exact C0
 .rintro⟨x,y⟩ a;replace a:AD .i64 (x+y)/\AD .i64 (y-x):=a;exact X0f
def kRl7:AH
 | [.agg [.int .i64 x,.int .i64 y]]=>some (AD .i64 (x+y)/\AD .i64 (y-x),.int .i64 (NE 3 x y))
 |_=>none
def FRl7:Fam:=⟨Int×Int,λ(x,y)=>[.agg [.int .i64 x,.int .i64 y]],λ(x,y)=>AD .i64 (x+y)/\AD .i64 (y-x),λ(x,y)=>.int .i64 (NE 3 x y)⟩
theorem pRl7:PS 225 kRl7:=by
 refine con [(219,US)] Gu FRl7 (λ_ _=>none) kRl7 ?_ ?_ Tryz.func225 E1 E1 E1 ?_
 .intro args pre s h a;unfold kRl7 at h;split at h
  .rename_i x y;cases h;exact⟨(x,y),by simp[FRl7,BK,SV.le2,SV.le1,BH,SV.le0],a,rfl⟩
  .cases h
 .exact C0
 .rintro⟨x,y⟩ a;replace a:AD .i64 (x+y)/\AD .i64 (y-x):=a;exact X0f
def f5c:AH
 | [.agg [.int .i64 x,.int .i64 y]]=>some (AD .i64 (x+y)/\AD .i64 (y-x),.int .i64 (NE 4 x y))
 |_=>none
def FRl10:Fam:=⟨Int×Int,λ(x,y)=>[.agg [.int .i64 x,.int .i64 y]],λ(x,y)=>AD .i64 (x+y)/\AD .i64 (y-x),λ(x,y)=>.int .i64 (NE 4 x y)⟩
theorem pRl10:PS 228 f5c:=by
 refine con [(219,US)] Gu FRl10 (λ_ _=>none) f5c ?_ ?_ Tryz.func228 E1 E1 E1 ?_
 .intro args pre s h a;unfold f5c at h;split at h
  .rename_i x y;cases h;exact⟨(x,y),by simp[FRl10,BK,SV.le2,SV.le1,BH,SV.le0],a,rfl⟩
  .cases h
 .exact C0
 .rintro⟨x,y⟩ a;replace a:AD .i64 (x+y)/\AD .i64 (y-x):=a;exact X0f
def d95:List SV:=[.con .nilFunc,.con .nilFunc,.con .nilFunc,.clo 218 [],.clo 220 [],.any,.clo 222 [],.clo 223 [],.any,.clo 225 [],.clo 226 [],.any,.clo 228 [],.clo 229 [],.any]
def c8e:AH
 | []=>some (True,.agg d95)
 |_=>none
def FRules:Fam:=⟨Unit,λ_=>[],λ_=>True,λ_=>.agg d95⟩
theorem pRules:PS 170 c8e:=by
 refine con [] E2 FRules (λ_ _=>none) c8e ?_ ?_ Tryz.func170 E1 E1 E1 ?_
 .intro args pre s h a;unfold c8e at h;split at h
  .cases h;exact⟨(),Jm,Jm,rfl⟩
  .cases h
 .intro i;show 0<=_;decide
 .intro i a;exact X0g
def QC(k C x y:Int):Int:=if AQ k C=0/\KJ x y=0 then(if NE k x y<2*C then -1 else if 2*C<NE k x y then 1 else 0)else 0
theorem Qb{k C:Int}(h:AQ k C=0):1<=k/\k<=4/\ -4096<=C/\C<=4096:=by
 unfold AQ at h;split at h
 .assumption
 .cases h
theorem b8p{x y:Int}(h:KJ x y=0): -65536<=x/\x<=65536/\ -65536<=y/\y<=65536:=by
 unfold KJ at h;split at h
 .assumption
 .cases h
theorem c8d{x y:Int}(h:KJ x y=0):AD .i64 (x+y)/\AD .i64 (y-x):=by have:=b8p h;constructor<;>simp only[AD]<;>omega
def c11:AH
 | [.agg [.int .u8 k,.int .i64 C],.agg [.int .i64 x,.int .i64 y]]=>some (1<=k/\k<=4,.int .i64 (QC k C x y))
 |_=>none
def d9j:Fam:=⟨Int×Int×Int×Int,λ(k,C,x,y)=>[.agg [.int .u8 k,.int .i64 C],.agg [.int .i64 x,.int .i64 y]],λ(k,_,_,_)=>1<=k/\k<=4,λ(k,C,x,y)=>.int .i64 (QC k C x y)⟩
theorem f96:PS 119 c11:=by
 refine con [(46,Sj),(169,Yf),(170,c8e),(218,kRl1),(222,kRl4),(225,kRl7),(228,f5c)] (by simpa using⟨b2r,d0u,pRules,pRl1,pRl4,pRl7,pRl10⟩) d9j (λ_ _=>none) c11 ?_ ?_ Tryz.func119 E1 E1 E1 ?_
 .intro args pre s h b;unfold c11 at h;split at h
  .rename_i k C x y;cases h;exact⟨(k,C,x,y),by simp[d9j,BK,SV.le2,SV.le1,BH,SV.le0],b,rfl⟩
  .cases h
 .exact Bz
 .rintro⟨k,C,x,y⟩ b;replace b:1<=k/\k<=4:=b;have d:k=1\/k=2\/k=3\/k=4:=Dz;rcases d with rfl|rfl|rfl|rfl;all_goals clear b
  all_goals refine X0a _ ?_;(repeat' first|constructor|intro h)<;>refine Lm ?_
  all_goals(try omega)
  all_goals(try simp only[J6,Is,Iz]at*)
  all_goals(first
   |(rename_i a;exact c8d a.2)
   |exact c8d h.2
   |(have:=Qb h.1;simp only[AD];omega)
   |(rename_i a;have:=Qb a.1;simp only[AD];omega)
   |(rename_i a _;have:=Qb a.1;simp only[AD];omega)
   |(unfold QC;rw[if_neg Dz])
   |(rename_i a;unfold QC;rw[if_pos a,if_pos Dz])
   |(rename_i c a;unfold QC;rw[if_pos c,if_neg Dz,if_pos Dz])
   |(rename_i c a;unfold QC;rw[if_pos c,if_neg Dz,if_neg Dz]))
def tA(t:Int):Int:=tb [1,0,-1,0,-1,0,1,0] t.toNat
def tB(t:Int):Int:=tb [0,-1,0,1,0,-1,0,1] t.toNat
def tC(t:Int):Int:=tb [0,1,0,-1,0,-1,0,1] t.toNat
def tD(t:Int):Int:=tb [1,0,-1,0,1,0,-1,0] t.toNat
def FR(a:Int):Prop:= -1<=a/\a<=1
theorem c98{t:Int}(a:0<=t)(h1:t<8):FR (tA t)/\FR (tB t)/\FR (tC t)/\FR (tD t):=by
 have:∀q:Nat,q<8->FR (tA q)/\FR (tB q)/\FR (tC q)/\FR (tD q):=by unfold FR;decide
 have:=this t.toNat Dz;rwa[Mi a]at this
theorem Tj{a x:Int}(h:FR a):a*x=0\/a*x=x\/a*x= -x:=by have h1:=h.1;have h2:=h.2;have:a= -1\/a=0\/a=1:=Dz;rcases this with rfl|rfl|rfl<;>simp
def WL:AH
 | [.agg [.int .i64 a,.int .i64 b,.int .i64 c,.int .i64 d],.int .i64 x,.int .i64 y]=>some (FR a/\FR b/\FR c/\FR d/\ -1000000<=x/\x<=1000000/\ -1000000<=y/\y<=1000000,.tup [.int .i64 (a*x+b*y),.int .i64 (c*x+d*y)])
 |_=>none
def f81:Fam:=⟨Int×Int×Int×Int×Int×Int,λ(a,b,c,d,x,y)=>[.agg [.int .i64 a,.int .i64 b,.int .i64 c,.int .i64 d],.int .i64 x,.int .i64 y],λ(a,b,c,d,x,y)=>FR a/\FR b/\FR c/\FR d/\ -1000000<=x/\x<=1000000/\ -1000000<=y/\y<=1000000,λ(a,b,c,d,x,y)=>.tup [.int .i64 (a*x+b*y),.int .i64 (c*x+d*y)]⟩
theorem d65:PS 71 WL:=by
 refine con [] E2 f81 (λ_ _=>none) WL ?_ ?_ Tryz.func71 E1 E1 E1 ?_
 .intro args pre s h e;unfold WL at h;split at h
  .rename_i a b c d x y;cases h;exact⟨(a,b,c,d,x,y),by simp[f81,BK,SV.le2,SV.le1,BH,SV.le0],e,rfl⟩
  .cases h
 .exact C1
 .rintro⟨a,b,c,d,x,y⟩ ⟨f,g,j,k,hx⟩;have e1:=Tj (x:=x) f;have e2:=Tj (x:=y) g;have e3:=Tj (x:=x) j;have e4:=Tj (x:=y) k;exact X0h
def b4m:AH
 | [.agg [.int .i64 a,.int .i64 b,.int .i64 c,.int .i64 d],.agg [.int .i64 p,.int .i64 q,.int .i64 r,.int .i64 s]]=>some ((FR a/\FR b/\FR c/\FR d)/\FR p/\FR q/\FR r/\FR s,.agg [.int .i64 (p*a+q*c),.int .i64 (p*b+q*d),.int .i64 (r*a+s*c),.int .i64 (r*b+s*d)])
 |_=>none
def c7u:Fam:=⟨Int×Int×Int×Int×Int×Int×Int×Int,λ(a,b,c,d,p,q,r,s)=>[.agg [.int .i64 a,.int .i64 b,.int .i64 c,.int .i64 d],.agg [.int .i64 p,.int .i64 q,.int .i64 r,.int .i64 s]],λ(a,b,c,d,p,q,r,s)=>(FR a/\FR b/\FR c/\FR d)/\FR p/\FR q/\FR r/\FR s,λ(a,b,c,d,p,q,r,s)=>.agg [.int .i64 (p*a+q*c),.int .i64 (p*b+q*d),.int .i64 (r*a+s*c),.int .i64 (r*b+s*d)]⟩
theorem f0g:PS 74 b4m:=by
 refine con [(71,WL)] (by simpa using d65) c7u (λ_ _=>none) b4m ?_ ?_ Tryz.func74 E1 E1 E1 ?_
 .intro args pre s h e;unfold b4m at h;split at h
  .rename_i a b c d p q r s;cases h;exact⟨(a,b,c,d,p,q,r,s),by simp[c7u,BK,SV.le2,SV.le1,BH,SV.le0],e,rfl⟩
  .cases h
 .exact Bz
 .rintro⟨a,b,c,d,p,q,r,s⟩ ⟨⟨ha,hb,hc,hd⟩,f,g,j,k⟩;refine X0a _ ?_;(repeat' first|constructor|intro h)<;>refine Lm ?_
  all_goals(first|rfl|(simp only[FR]at*;refine⟨f,g,j,k,?_⟩;omega))
def rowM(i:Nat)(a b c d:Int):Bool:=decide (tb [1,0,-1,0,-1,0,1,0] i=a)&&(decide (tb [0,-1,0,1,0,-1,0,1] i=b)&&(decide (tb [0,1,0,-1,0,-1,0,1] i=c)&&(decide (tb [1,0,-1,0,1,0,-1,0] i=d)&&true)))
def Sr(l:List Nat)(a b c d:Int):Int:=match l with
 | []=>0
 |i::l=>bif rowM i a b c d then i else Sr l a b c d
def numM(a b c d:Int):Int:=Sr [0,1,2,3,4,5,6,7] a b c d
def f26:SV:=.agg (Qz 0++Qz 1++Qz 2++Qz 3++Qz 4++Qz 5++Qz 6++Qz 7)
def INum:Int×Int×Int×Int->Nat->Option Inv
 |(a,b,c,d),2=>some {β:=Nat,ok:=λi=>i<=8/\numM a b c d=Sr ([0,1,2,3,4,5,6,7].drop i) a b c d,st:=λi=>⟨[⟨6,none,.int .i64 i⟩,⟨5,none,f26⟩,⟨2,none,.int .u8 0⟩,⟨1,none,.own 0 0⟩],[.cells 156 [.int .i64 a,.int .i64 b,.int .i64 c,.int .i64 d]]⟩,μ:=λi=>8-i}
 |_,_=>none
theorem Sf(i:Nat)(l:List Nat)(a b c d:Int)(h:rowM i a b c d=false):Sr (i::l) a b c d=Sr l a b c d:=by rw[Sr,h,cond_false]
theorem f9c(i:Nat)(l:List Nat)(a b c d:Int)(h:rowM i a b c d=true):Sr (i::l) a b c d=i:=by rw[Sr,h,N9]
def c0u:AH
 | [.agg [.int .i64 a,.int .i64 b,.int .i64 c,.int .i64 d]]=>some (True,.int .u8 (numM a b c d))
 |_=>none
def d5v:Fam:=⟨Int×Int×Int×Int,λ(a,b,c,d)=>[.agg [.int .i64 a,.int .i64 b,.int .i64 c,.int .i64 d]],λ(_,_,_,_)=>True,λ(a,b,c,d)=>.int .u8 (numM a b c d)⟩
theorem g0z:PS 73 c0u:=by
 refine con [] E2 d5v INum c0u ?_ ?_ Tryz.func73 E1 E1 E1 ?_
 .intro args pre s h f;unfold c0u at h;split at h
  .rename_i a b c d;cases h;exact⟨(a,b,c,d),by simp[d5v,BK,SV.le2,SV.le1,BH,SV.le0],f,rfl⟩
  .cases h
 .exact C0
 .rintro⟨a,b,c,d⟩ f;replace f:True:=f;refine X0a _ ?_;(repeat' first|constructor|intro h)<;>refine Lm ?_
  refine⟨(0:Nat),⟨Dz,rfl⟩,?_,?_⟩
  .exact X0d
  .intro i j;obtain⟨dj,e⟩:=j;have:i=0\/i=1\/i=2\/i=3\/i=4\/i=5\/i=6\/i=7\/i=8:=Dz;rcases this with rfl|rfl|rfl|rfl|rfl|rfl|rfl|rfl|rfl;all_goals replace e:=e
   all_goals refine X0a _ ?_;(repeat' first|constructor|intro h)<;>refine Lm ?_
   all_goals(first
    |decide
    |exact A6
    |exact e.symm
    |exact(e.trans (f9c _ _ _ _ _ _ h)).symm
    |(first|refine⟨(1:Nat),⟨E4,e.trans (Sf 0 _ _ _ _ _ h)⟩,E4,?_⟩|refine⟨(2:Nat),⟨E4,e.trans (Sf 1 _ _ _ _ _ h)⟩,E4,?_⟩|refine⟨(3:Nat),⟨E4,e.trans (Sf 2 _ _ _ _ _ h)⟩,E4,?_⟩|refine⟨(4:Nat),⟨E4,e.trans (Sf 3 _ _ _ _ _ h)⟩,E4,?_⟩|refine⟨(5:Nat),⟨E4,e.trans (Sf 4 _ _ _ _ _ h)⟩,E4,?_⟩|refine⟨(6:Nat),⟨E4,e.trans (Sf 5 _ _ _ _ _ h)⟩,E4,?_⟩|refine⟨(7:Nat),⟨E4,e.trans (Sf 6 _ _ _ _ _ h)⟩,E4,?_⟩|refine⟨(8:Nat),⟨E4,e.trans (Sf 7 _ _ _ _ _ h)⟩,E4,?_⟩))
   all_goals exact X1
def cT(t u:Int):Int:=numM (tA u*tA t+tB u*tC t) (tA u*tB t+tB u*tD t) (tC u*tA t+tD u*tC t) (tC u*tB t+tD u*tD t)
theorem cT_le{t u:Int}(a:0<=t)(h1:t<8)(k0:0<=u)(k1:u<8):0<=cT t u/\cT t u<8:=by
 have:∀q:Nat,q<8->∀r:Nat,r<8->0<=cT q r/\cT q r<8:=by decide +kernel
 have:=this t.toNat Dz u.toNat Dz;rwa[Mi a,Mi k0]at this
def b99:AH
 | [.int .i64 n]=>some (True,.bool (or (decide (n< -16384)) (decide (16384<n))))
 |_=>none
def d4x:Fam:=⟨Int,λn=>[.int .i64 n],λ_=>True,λn=>.bool (or (decide (n< -16384)) (decide (16384<n)))⟩
theorem g0u:PS 122 b99:=by
 refine con [] E2 d4x (λ_ _=>none) b99 ?_ ?_ Tryz.func122 E1 E1 E1 ?_
 .intro args pre s h a;unfold b99 at h;split at h
  .rename_i n;cases h;exact⟨n,by simp[d4x,BK,SV.le2,SV.le1,SV.le0],a,rfl⟩
  .cases h
 .exact C0
 .intro(n:Int) a;replace a:True:=a;exact X0g
def Do(t x y:Int):Int:=if t<8/\ -16384<=x/\x<=16384/\ -16384<=y/\y<=16384/\(x+y)%2=0 then 0 else 1
theorem Sv{t x y:Int}(h:Do t x y=0):t<8/\ -16384<=x/\x<=16384/\ -16384<=y/\y<=16384/\(x+y)%2=0:=by
 unfold Do at h;split at h
 .assumption
 .cases h
theorem tmod2(n:Int):n.tmod 2=0↔n%2=0:=by rw[<-Int.dvd_iff_emod_eq_zero,Int.dvd_iff_tmod_eq_zero]
def RM:AH
 | [.agg [.int .u8 t,.int .i64 x,.int .i64 y]]=>some (0<=t/\t<=255,.int .i64 (Do t x y))
 |_=>none
def c7r:Fam:=⟨Int×Int×Int,λ(t,x,y)=>[.agg [.int .u8 t,.int .i64 x,.int .i64 y]],λ(t,_,_)=>0<=t/\t<=255,λ(t,x,y)=>.int .i64 (Do t x y)⟩
theorem VE:PS 62 RM:=by
 refine con [(122,b99)] (by simpa using g0u) c7r (λ_ _=>none) RM ?_ ?_ Tryz.func62 E1 E1 E1 ?_
 .intro args pre s h a;unfold RM at h;split at h
  .rename_i t x y;cases h;exact⟨(t,x,y),by simp[c7r,BK,SV.le2,SV.le1,BH,SV.le0],a,rfl⟩
  .cases h
 .exact C0
 .rintro⟨t,x,y⟩ a;replace a:0<=t/\t<=255:=a;refine X0a _ ?_;(repeat' first|constructor|intro h)<;>refine Lm ?_
  all_goals(try(simp only[J6,Is,Iz]at*))
  all_goals(first
   |decide
   |exact A6
   |(unfold Do;rw[if_neg Dz])
   |(intro _;decide)
   |(intros;simp only[AD];omega)
   |(intros;unfold Do;rw[if_neg Dz])
   |(have e:=tmod2 (x+y);unfold Do;rw[if_pos Dz])
   |(have e:=tmod2 (x+y);unfold Do;rw[if_neg Dz]))
def NB(t x y:Int):Int:=if Do t x y=0 then 0 else 3
def keep(e v:Int):Int:=if e=0 then v else 0
def b4r:AH
 | [.agg [.int .u8 t,.int .i64 x,.int .i64 y]]=>some (0<=t/\t<=255,.tup [.agg [.int .u8 (keep (NB t x y) t),.int .i64 (keep (NB t x y) x),.int .i64 (keep (NB t x y) y)],.int .i64 (NB t x y)])
 |_=>none
def c9g:Fam:=⟨Int×Int×Int,λ(t,x,y)=>[.agg [.int .u8 t,.int .i64 x,.int .i64 y]],λ(t,_,_)=>0<=t/\t<=255,λ(t,x,y)=>.tup [.agg [.int .u8 (keep (NB t x y) t),.int .i64 (keep (NB t x y) x),.int .i64 (keep (NB t x y) y)],.int .i64 (NB t x y)]⟩
theorem f3i:PS 72 b4r:=by
 refine con [(62,RM)] (by simpa using VE) c9g (λ_ _=>none) b4r ?_ ?_ Tryz.func72 E1 E1 E1 ?_
 .intro args pre s h a;unfold b4r at h;split at h
  .rename_i t x y;cases h;exact⟨(t,x,y),by simp[c9g,BK,SV.le2,SV.le1,BH,SV.le0],a,rfl⟩
  .cases h
 .exact C0
 .rintro⟨t,x,y⟩ a;replace a:0<=t/\t<=255:=a;refine X0a _ ?_;(repeat' first|constructor|intro h)<;>refine Lm ?_
  all_goals(try exact a)
  all_goals(simp only[Is,Iz]at h)
  all_goals(simp[keep,NB,h])
def c7f:AH
 | [.agg [.int .u8 t,.int .i64 x,.int .i64 y]]=>some (0<=t/\t<=255,.bool (and (decide (Do t x y=0)) (decide (4<=t))))
 |_=>none
def f5s:Fam:=⟨Int×Int×Int,λ(t,x,y)=>[.agg [.int .u8 t,.int .i64 x,.int .i64 y]],λ(t,_,_)=>0<=t/\t<=255,λ(t,x,y)=>.bool (and (decide (Do t x y=0)) (decide (4<=t)))⟩
theorem pFlips:PS 80 c7f:=by
 refine con [(62,RM)] (by simpa using VE) f5s (λ_ _=>none) c7f ?_ ?_ Tryz.func80 E1 E1 E1 ?_
 .intro args pre s h a;unfold c7f at h;split at h
  .rename_i t x y;cases h;exact⟨(t,x,y),by simp[f5s,BK,SV.le2,SV.le1,BH,SV.le0],a,rfl⟩
  .cases h
 .exact C0
 .rintro⟨t,x,y⟩ a;replace a:0<=t/\t<=255:=a;refine X0a _ ?_;(repeat' first|constructor|intro h)<;>refine Lm ?_
  all_goals(first|exact a|rfl|skip)
theorem f1e(k C:Int):AQ k C=0\/AQ k C=1:=by unfold AQ;split<;>simp
def DZ(k:Int):Int:=if k=1 then 4 else if k=2 then 6 else if k=3 then 5 else 7
def GQ(k C:Int):Int:=if k=1 then 2*C else if k=2 then 0 else if k=3 then C else -C
def GS(k C:Int):Int:=if k=1 then 0 else if k=2 then 2*C else C
def SM:AH
 | [.agg [.int .u8 k,.int .i64 C]]=>some (True,.tup [.agg [.int .u8 (keep (AQ k C) (DZ k)),.int .i64 (keep (AQ k C) (GQ k C)),.int .i64 (keep (AQ k C) (GS k C))],.int .i64 (AQ k C)])
 |_=>none
def FMvOf:Fam:=⟨Int×Int,λ(k,C)=>[.agg [.int .u8 k,.int .i64 C]],λ(_,_)=>True,λ(k,C)=>.tup [.agg [.int .u8 (keep (AQ k C) (DZ k)),.int .i64 (keep (AQ k C) (GQ k C)),.int .i64 (keep (AQ k C) (GS k C))],.int .i64 (AQ k C)]⟩
theorem g42:PS 20 SM:=by
 refine con [(46,Sj)] (by simpa using b2r) FMvOf (λ_ _=>none) SM ?_ ?_ Tryz.func20 E1 E1 E1 ?_
 .intro args pre s h a;unfold SM at h;split at h
  .rename_i k C;cases h;exact⟨(k,C),by simp[FMvOf,BK,SV.le2,SV.le1,BH,SV.le0],a,rfl⟩
  .cases h
 .exact C0
 .rintro⟨k,C⟩ a;replace a:True:=a;refine X0a _ ?_;(repeat' first|constructor|intro h)<;>refine Lm ?_
  all_goals(have e:=f1e k C;have e':=@Qb k C)
  all_goals(try simp only[AD])
  all_goals grind[keep,DZ,GQ,GS]
def KP(t x y:Int):Int:=tA t*x+tB t*y
def KR(t x y:Int):Int:=tC t*x+tD t*y
def Gl(t x y u z w:Int):Int:=if Do t x y=0/\Do u z w=0 then NB (cT t u) (KP u x y+z) (KR u x y+w)else 1
def OG(t x y u z w:Int):Int:=keep (Gl t x y u z w) (cT t u)
def RJ(t x y u z w:Int):Int:=keep (Gl t x y u z w) (KP u x y+z)
def QV(t x y u z w:Int):Int:=keep (Gl t x y u z w) (KR u x y+w)
theorem c66{t x y B:Int}(a:0<=t)(b:t<8)(a1: -B<=x)(a2:x<=B)(b1: -B<=y)(b2:y<=B): -(2*B)<=KP t x y/\KP t x y<=2*B/\ -(2*B)<=KR t x y/\KR t x y<=2*B:=by obtain⟨c,d,e,f⟩:=c98 a b;have e1:=Tj (x:=x) c;have e2:=Tj (x:=y) d;have e3:=Tj (x:=x) e;have e4:=Tj (x:=y) f;unfold KP KR;omega
def Rd:AH
 | [.agg [.int .u8 t,.int .i64 x,.int .i64 y],.agg [.int .u8 u,.int .i64 z,.int .i64 w]]=>some ((0<=t/\t<=255)/\0<=u/\u<=255,.tup [.agg [.int .u8 (OG t x y u z w),.int .i64 (RJ t x y u z w),.int .i64 (QV t x y u z w)],.int .i64 (Gl t x y u z w)])
 |_=>none
def FThen:Fam:=⟨Int×Int×Int×Int×Int×Int,λ(t,x,y,u,z,w)=>[.agg [.int .u8 t,.int .i64 x,.int .i64 y],.agg [.int .u8 u,.int .i64 z,.int .i64 w]],λ(t,_,_,u,_,_)=>(0<=t/\t<=255)/\0<=u/\u<=255,λ(t,x,y,u,z,w)=>.tup [.agg [.int .u8 (OG t x y u z w),.int .i64 (RJ t x y u z w),.int .i64 (QV t x y u z w)],.int .i64 (Gl t x y u z w)]⟩
theorem g14 : PS 24 Rd := by
  refine con [(62, RM), (71, WL), (74, b4m), (73, c0u), (72, b4r)] (by simpa using ⟨VE, d65, f0g, g0z, f3i⟩) FThen (λ_ _ => none) Rd ?_ ?_ Tryz.func24 E1 E1 E1 ?_
  · intro args pre s h a
    unfold Rd at h
    split at h
    · rename_i t x y u z w; cases h; exact ⟨(t, x, y, u, z, w), by simp [FThen, BK, SV.le2, SV.le1, BH, SV.le0], a, rfl⟩
    · cases h
  · exact Bz
  · rintro ⟨t, x, y, u, z, w⟩ a
    replace a : (0 ≤ t ∧ t ≤ 255) ∧ 0 ≤ u ∧ u ≤ 255 := a
    refine AB _ ?_; (repeat' first | constructor | refine Iu λhu => ?_ | intro h)<;>refine Lm ?_
    all_goals (first
      | exact a.1
      | exact λ_ => a.2
      | (have e : Gl t x y u z w = 1 := by grind [Gl]
         simp [OG, RJ, QV, keep, e]; done)
      | (rw [M6] at h
         have f : Do t x y = 0 := by simpa using h.1
         have g : Do u z w = 0 := by simpa using h.2
         have j := Sv f
         have d := Sv g
         have r := c66 (t := u) (x := x) (y := y) (B := 16384) a.2.1 d.1 Dz Dz Dz Dz
         have c := cT_le a.1.1 j.1 a.2.1 d.1
         have k := c98 a.1.1 j.1
         have b := c98 a.2.1 d.1
         first
         | (constructor <;> omega)
         | exact ⟨b.1, b.2.1, b.2.2.1, b.2.2.2, Dz, Dz, Dz, Dz⟩
         | exact ⟨k, b⟩
         | (change AD .i64 (KP u x y + z); simp only [AD]; omega)
         | (change AD .i64 (KR u x y + w); simp only [AD]; omega)
         | (refine ⟨c.1, ?_⟩; change cT t u ≤ 255; omega)
         | (have e : Gl t x y u z w = NB (cT t u) (KP u x y + z) (KR u x y + w) := by unfold Gl; rw [if_pos ⟨f, g⟩]
            first | exact e.symm | (unfold OG; rw [e]; rfl) | (unfold RJ; rw [e]; rfl) | (unfold QV; rw [e]; rfl)))
      | skip)
def Qk(t x y a b:Int):Int:=if Do t x y=0/\KJ a b=0 then(if KJ (KP t a b+2*x) (KR t a b+2*y)=0 then 0 else 3)else 1
def OZ(t x y a b:Int):Int:=keep (Qk t x y a b) (KP t a b+2*x)
def OQ(t x y a b:Int):Int:=keep (Qk t x y a b) (KR t a b+2*y)
def b51:AH
 | [.agg [.int .u8 t,.int .i64 x,.int .i64 y],.agg [.int .i64 a,.int .i64 b]]=>some (0<=t/\t<=255,.tup [.agg [.int .i64 (OZ t x y a b),.int .i64 (OQ t x y a b)],.int .i64 (Qk t x y a b)])
 |_=>none
def c9e:Fam:=⟨Int×Int×Int×Int×Int,λ(t,x,y,a,b)=>[.agg [.int .u8 t,.int .i64 x,.int .i64 y],.agg [.int .i64 a,.int .i64 b]],λ(t,_,_,_,_)=>0<=t/\t<=255,λ(t,x,y,a,b)=>.tup [.agg [.int .i64 (OZ t x y a b),.int .i64 (OQ t x y a b)],.int .i64 (Qk t x y a b)]⟩
theorem f2t : PS 172 b51 := by
  refine con [(62, RM), (71, WL), (169, Yf)] (by simpa using ⟨VE, d65, d0u⟩) c9e (λ_ _ => none) b51 ?_ ?_ Tryz.func172 E1 E1 E1 ?_
  · intro args pre s h c
    unfold b51 at h
    split at h
    · rename_i t x y a b; cases h; exact ⟨(t, x, y, a, b), by simp [c9e, BK, SV.le2, SV.le1, BH, SV.le0], c, rfl⟩
    · cases h
  · exact Bz
  · rintro ⟨t, x, y, a, b⟩ c
    replace c : 0 ≤ t ∧ t ≤ 255 := c
    refine AB _ ?_; (repeat' first | constructor | refine Iu λhu => ?_ | intro h)<;>refine Lm ?_
    all_goals (first
      | exact c
      | (have e : Qk t x y a b = 1 := by grind [Qk]
         simp [OZ, OQ, keep, e]; done)
      | (have f : (!decide (Do t x y = 0) || !decide (KJ a b = 0)) = false := by assumption
         rw [M6] at f
         have g : Do t x y = 0 := by simpa using f.1
         have j : KJ a b = 0 := by simpa using f.2
         have k := Sv g
         have m2 := b8p j
         have r := c66 (t := t) (x := a) (y := b) (B := 65536) c.1 k.1 Dz Dz Dz Dz
         have d := c98 c.1 k.1
         first
         | (constructor <;> omega)
         | exact ⟨d.1, d.2.1, d.2.2.1, d.2.2.2, Dz, Dz, Dz, Dz⟩
         | (change AD .i64 (KP t a b + 2 * x); simp only [AD]; omega)
         | (change AD .i64 (KR t a b + 2 * y); simp only [AD]; omega)
         | exact A6
         | (have e : Qk t x y a b = (if KJ (KP t a b + 2 * x) (KR t a b + 2 * y) = 0 then 0 else 3) := by unfold Qk; rw [if_pos ⟨g, j⟩]
            first
            | (have q : KJ (KP t a b + 2 * x) (KR t a b + 2 * y) = 0 := by (change (!decide (KJ (KP t a b + 2 * x) (KR t a b + 2 * y) = 0)) = false at h; simpa using h)
               rw [Ji q] at e
               simp only [OZ, OQ, keep, e, L1]; try rfl)
            | (have q : ¬ KJ (KP t a b + 2 * x) (KR t a b + 2 * y) = 0 := by (change (!decide (KJ (KP t a b + 2 * x) (KR t a b + 2 * y) = 0)) = true at h; simpa using h)
               rw [Jj q] at e
               simp [OZ, OQ, keep, e]; done)))
      | skip)
def AV(W H:Int):Int:=if 1<=W/\1<=H/\W<=256/\H<=256/\W*H<=256 then 0 else 1
theorem c4j{W H:Int}(c:1<=W)(d:1<=H)(e:W<=256)(f:H<=256):1<=W*H/\W*H<=65536:=by have a:1*1<=W*H:=Int.mul_le_mul c d Dz Dz;have b:W*H<=256*256:=Int.mul_le_mul e f Dz Dz;omega
def Qi:AH
 | [.agg [.int .i64 W,.int .i64 H]]=>some (True,.int .i64 (AV W H))
 |_=>none
def b46:Fam:=⟨Int×Int,λ(W,H)=>[.agg [.int .i64 W,.int .i64 H]],λ_=>True,λ(W,H)=>.int .i64 (AV W H)⟩
theorem TE:PS 86 Qi:=by
 refine con [] E2 b46 (λ_ _=>none) Qi ?_ ?_ Tryz.func86 E1 E1 E1 ?_
 .intro args pre s h hp;unfold Qi at h;split at h
  .rename_i W H;cases h;exact⟨(W,H),by simp[b46,BK,SV.le2,SV.le1,BH,SV.le0],Jm,rfl⟩
  .cases h
 .exact C0
 .rintro⟨W,H⟩-;refine X0a _ ?_;(repeat' first|constructor|intro h)<;>refine Lm ?_
  .intro h;simp at h;have:=c4j (W:=W) (H:=H) Dz Dz Dz Dz;simp only[AD];omega
  .simp[AV]at h⊢;omega
  .simp[AV]at h⊢;omega
def Qy(W H i:Int):Bool:=decide (0<=i)&&decide (i<4*W*H)
def kHas:AH
 | [.agg [.int .i64 W,.int .i64 H],.int .i64 i]=>some (AV W H=0,.bool (Qy W H i))
 |_=>none
def FHas:Fam:=⟨Int×Int×Int,λ(W,H,i)=>[.agg [.int .i64 W,.int .i64 H],.int .i64 i],λ(W,H,_)=>AV W H=0,λ(W,H,i)=>.bool (Qy W H i)⟩
theorem OB{W H:Int}(h:AV W H=0):1<=W/\1<=H/\W<=256/\H<=256/\1<=W*H/\W*H<=256/\4*W*H=4*(W*H):=by
 unfold AV at h;split at h
 .rename_i e;obtain⟨a,b,c,d,f⟩:=e;have:=c4j a b c d;exact⟨a,b,c,d,this.1,f,Md _ _ _⟩
 .cases h
theorem pHas:PS 136 kHas:=by
 refine con [] E2 FHas (λ_ _=>none) kHas ?_ ?_ Tryz.func136 E1 E1 E1 ?_
 .intro args pre s h a;unfold kHas at h;split at h
  .rename_i W H i;cases h;exact⟨(W,H,i),by simp[FHas,BK,SV.le2,SV.le1,BH,SV.le0],a,rfl⟩
  .cases h
 .exact Bz
 .rintro⟨W,H,i⟩ a;obtain⟨h1,h2,h3,h4,h5,h6,h7⟩:=OB a;refine X0a _ ?_;(repeat' first|constructor|intro h)<;>refine Lm ?_
  .intro _;simp only[AD];omega
  .intro _;simp only[AD];omega
  all_goals rfl
def d6y:AH
 | [.agg [.int .i64 W,.int .i64 _],.int .i64 i]=>some (1<=W/\W<=256/\0<=i/\i<=1024,.agg [.int .i64 (i/4%W),.int .i64 (i/4/W),.int .u8 (i%4)])
 |_=>none
def FCell:Fam:=⟨Int×Int×Int,λ(W,H,i)=>[.agg [.int .i64 W,.int .i64 H],.int .i64 i],λ(W,_,i)=>1<=W/\W<=256/\0<=i/\i<=1024,λ(W,_,i)=>.agg [.int .i64 (i/4%W),.int .i64 (i/4/W),.int .u8 (i%4)]⟩
theorem pCell:PS 137 d6y:=by
 refine con [] E2 FCell (λ_ _=>none) d6y ?_ ?_ Tryz.func137 E1 E1 E1 ?_
 .intro args pre s h b;unfold d6y at h;split at h
  .rename_i W H i;cases h;exact⟨(W,H,i),by simp[FCell,BK,SV.le2,SV.le1,BH,SV.le0],b,rfl⟩
  .cases h
 .exact Bz
 .rintro⟨W,H,i⟩ ⟨h1,h2,a,h4⟩;have c:i.tdiv 4=i/4:=M3 a;have d:i.tmod 4=i%4:=Kq a;have e:(i/4).tdiv W=i/4/W:=M3 Dz;have f:(i/4).tmod W=i/4%W:=Kq Dz;have a5:i/4/W<=i/4:=Int.ediv_le_self _ Dz;have a6:0<=i/4/W:=Int.ediv_nonneg Dz Dz;refine X0a _ ?_;(repeat' first|constructor|intro h)<;>refine Lm ?_
  all_goals(try simp only[c,d,e,f])
  all_goals(try simp only[AD])
  all_goals omega
def BG(X Y Q:Int):Int:=if -4096<=X/\X<=4096/\ -4096<=Y/\Y<=4096/\Q<=3 then 0 else 1
def Pf:AH
 | [.agg [.int .i64 X,.int .i64 Y,.int .u8 Q]]=>some (True,.int .i64 (BG X Y Q))
 |_=>none
def b5d:Fam:=⟨Int×Int×Int,λ(X,Y,Q)=>[.agg [.int .i64 X,.int .i64 Y,.int .u8 Q]],λ_=>True,λ(X,Y,Q)=>.int .i64 (BG X Y Q)⟩
theorem Vu:PS 65 Pf:=by
 refine con [] E2 b5d (λ_ _=>none) Pf ?_ ?_ Tryz.func65 E1 E1 E1 ?_
 .intro args pre s h hp;unfold Pf at h;split at h
  .rename_i X Y Q;cases h;exact⟨(X,Y,Q),by simp[b5d,BK,SV.le2,SV.le1,BH,SV.le0],Jm,rfl⟩
  .cases h
 .exact C0
 .rintro⟨X,Y,Q⟩-;refine X0a _ ?_;(repeat' first|constructor|intro h)<;>refine Lm ?_
  .simp[BG]at h⊢;omega
  .simp[BG]at h⊢;omega
theorem Sp{X Y Q:Int}(h:BG X Y Q=0): -4096<=X/\X<=4096/\ -4096<=Y/\Y<=4096/\Q<=3:=by
 unfold BG at h;split at h
 .assumption
 .cases h
def IL(W H i:Int):Int:=if AV W H=0 then if Qy W H i=true then 0 else 7 else 1
def BV(W H i:Int):Int:=if IL W H i=0 then i/4%W else 0
def BW(W H i:Int):Int:=if IL W H i=0 then i/4/W else 0
def BZ(W H i:Int):Int:=if IL W H i=0 then i%4 else 0
theorem b4t(W H:Int):AV W H=0\/AV W H=1:=by unfold AV;split<;>simp
def Wo:AH
 | [.agg [.int .i64 W,.int .i64 H],.int .i64 i]=>some (True,.tup [.agg [.int .i64 (BV W H i),.int .i64 (BW W H i),.int .u8 (BZ W H i)],.int .i64 (IL W H i)])
 |_=>none
def b5y:Fam:=⟨Int×Int×Int,λ(W,H,i)=>[.agg [.int .i64 W,.int .i64 H],.int .i64 i],λ_=>True,λ(W,H,i)=>.tup [.agg [.int .i64 (BV W H i),.int .i64 (BW W H i),.int .u8 (BZ W H i)],.int .i64 (IL W H i)]⟩
theorem b2b:PS 90 Wo:=by
 refine con [(86,Qi),(136,kHas),(137,d6y)] (by simpa using⟨TE,pHas,pCell⟩) b5y (λ_ _=>none) Wo ?_ ?_ Tryz.func90 E1 E1 E1 ?_
 .intro args pre s h hp;unfold Wo at h;split at h
  .rename_i W H i;cases h;exact⟨(W,H,i),by simp[b5y,BK,SV.le2,SV.le1,BH,SV.le0],Jm,rfl⟩
  .cases h
 .exact Bz
 .rintro⟨W,H,i⟩-;refine X0a _ ?_;(repeat' first|constructor|intro h)<;>refine Lm ?_
  all_goals(try simp only[BV,BW,BZ,IL])
  all_goals(try simp at h)
  all_goals(first|(simp[h];done)|skip)
  all_goals(try(rename_i a;simp at a;simp[h,a];done))
  .rw[Jj h];exact(b4t W H).resolve_left h
  .rename_i a;simp at a;obtain⟨h1,h2,h3,h4,h5,h6,h7⟩:=OB a;simp[Qy]at h;omega
def EP(Q e:Int):Int:=[tb [0,1,0,-1] Q.toNat,tb [0,0,0,0] Q.toNat,tb [0,0,0,0] Q.toNat].getD e.toNat 0
def ER(Q e:Int):Int:=[tb [-1,0,1,0] Q.toNat,tb [0,0,0,0] Q.toNat,tb [0,0,0,0] Q.toNat].getD e.toNat 0
def EY(Q e:Int):Int:=[tb [2,3,0,1] Q.toNat,tb [1,0,3,2] Q.toNat,tb [3,2,1,0] Q.toNat].getD e.toNat 0
def FU(X Y Q e:Int):Int:=if BG X Y Q=0/\e<=2 then(if BG (EP Q e+X) (ER Q e+Y) (EY Q e)=0 then 0 else 3)else 1
def IC(X Y Q e:Int):Int:=if FU X Y Q e=0 then EP Q e+X else 0
def IH(X Y Q e:Int):Int:=if FU X Y Q e=0 then ER Q e+Y else 0
def HJ(X Y Q e:Int):Int:=if FU X Y Q e=0 then EY Q e else 0
theorem f8a{Q e:Int}(a:0<=Q)(h2:Q<=3)(b:0<=e)(h4:e<=2): -1<=EP Q e/\EP Q e<=1/\ -1<=ER Q e/\ER Q e<=1/\0<=EY Q e/\EY Q e<=3:=by have:∀q:Nat,q<4->∀e:Nat,e<3-> -1<=EP q e/\EP q e<=1/\ -1<=ER q e/\ER q e<=1/\0<=EY q e/\EY q e<=3:=E4;have:=this Q.toNat Dz e.toNat Dz;rwa[Mi a,Mi b]at this
theorem f2n(X Y Q:Int):BG X Y Q=0\/BG X Y Q=1:=by unfold BG;split<;>simp
def VA:AH
 | [.agg [.int .i64 X,.int .i64 Y,.int .u8 Q],.int .u8 e]=>some (0<=Q/\0<=e,.tup [.agg [.int .i64 (IC X Y Q e),.int .i64 (IH X Y Q e),.int .u8 (HJ X Y Q e)],.int .i64 (FU X Y Q e)])
 |_=>none
def b1e:Fam:=⟨Int×Int×Int×Int,λ(X,Y,Q,e)=>[.agg [.int .i64 X,.int .i64 Y,.int .u8 Q],.int .u8 e],λ(_,_,Q,e)=>0<=Q/\0<=e,
 λ(X,Y,Q,e)=>.tup [.agg [.int .i64 (IC X Y Q e),.int .i64 (IH X Y Q e),.int .u8 (HJ X Y Q e)],.int .i64 (FU X Y Q e)]⟩
theorem b01:PS 91 VA:=by
 refine con [(65,Pf)] Hm b1e (λ_ _=>none) VA ?_ ?_ Tryz.func91 E1 E1 E1 ?_
 .intro args pre s h f;unfold VA at h;split at h
  .rename_i X Y Q e;cases h;exact⟨(X,Y,Q,e),by simp[b1e,BK,SV.le2,SV.le1,BH,SV.le0],f,rfl⟩
  .cases h
 .exact Bz
 .rintro⟨X,Y,Q,e⟩ ⟨c,d⟩;refine X0a _ ?_;(repeat' first|constructor|intro h)<;>refine Lm ?_
  all_goals(try simp only[IC,IH,HJ])
  all_goals(try(have a:FU X Y Q e=1:=by simp[FU];simp at h;omega);simp[a];done)
  .simp at h;have:=Sp h.1;omega
  .simp at h;omega
  all_goals(try(change AD .i64 (EP Q e+X);simp at h;have:=Sp h.1;have n:=f8a c Dz d Dz;simp only[AD];omega))
  all_goals(try(change AD .i64 (ER Q e+Y);simp at h;have:=Sp h.1;have n:=f8a c Dz d Dz;simp only[AD];omega))
  all_goals(rename_i b;simp at b)
  all_goals(change (!decide (BG (EP Q e+X) (ER Q e+Y) (EY Q e)=0))=_ at h;simp at h)
  all_goals(try(have a:FU X Y Q e=3:=by simp[FU,b,h]);simp[a];done)
  all_goals(have a:FU X Y Q e=0:=by simp[FU,b,h])
  all_goals(simp only[a,L1])
  .rfl
  .rfl
  .rfl
def LK(W H X Y Q:Int):Int:=if AV W H=0 then(if BG X Y Q=0/\0<=X/\X<W/\0<=Y/\Y<H then 0 else 7)else 1
def PP(W H X Y Q:Int):Int:=if LK W H X Y Q=0 then 4*(Y*W+X)+Q else 0
def kId:AH
 | [.agg [.int .i64 W,.int .i64 H],.agg [.int .i64 X,.int .i64 Y,.int .u8 Q]]=>some (0<=Q,.tup [.int .i64 (PP W H X Y Q),.int .i64 (LK W H X Y Q)])
 |_=>none
def FId:Fam:=⟨Int×Int×Int×Int×Int,λ(W,H,X,Y,Q)=>[.agg [.int .i64 W,.int .i64 H],.agg [.int .i64 X,.int .i64 Y,.int .u8 Q]],λ(_,_,_,_,Q)=>0<=Q,
 λ(W,H,X,Y,Q)=>.tup [.int .i64 (PP W H X Y Q),.int .i64 (LK W H X Y Q)]⟩
theorem g10{W H X Y:Int}(h:AV W H=0)(_:0<=X)(h2:X<W)(a:0<=Y)(h4:Y<H):0<=Y*W/\Y*W+X<W*H/\W*H<=256:=by
 obtain⟨a1,a2,a3,a4,a5,a6,a7⟩:=OB h;have b:Y*W<=(H-1)*W:=Int.mul_le_mul_of_nonneg_right Dz Dz;have c:(H-1)*W=W*H-W:=by rw[Int.sub_mul,Int.one_mul,Int.mul_comm]
 have d:0<=Y*W:=Int.mul_nonneg a Dz;omega
theorem pId:PS 92 kId:=by
 refine con [(86,Qi),(65,Pf)] (by simpa using⟨TE,Vu⟩) FId (λ_ _=>none) kId ?_ ?_ Tryz.func92 E1 E1 E1 ?_
 .intro args pre s h f;unfold kId at h;split at h
  .rename_i W H X Y Q;cases h;exact⟨(W,H,X,Y,Q),by simp[FId,BK,SV.le2,SV.le1,BH,SV.le0],f,rfl⟩
  .cases h
 .exact Bz
 .rintro⟨W,H,X,Y,Q⟩ e;replace e:0<=Q:=e;refine X0a _ ?_;(repeat' first|constructor|intro h)<;>refine Lm ?_
  all_goals(try(have a:LK W H X Y Q=1:=by(simp at h;simp[LK,h]));rw[PP,a];rfl)
  .simp at h;rw[LK,Jj h];exact(b4t W H).resolve_left h
  all_goals(try((have a:LK W H X Y Q=7:=by(rename_i d;simp at d;simp at h;rw[LK,Ji d,Jj];omega));first|exact a.symm|(rw[PP,a];rfl)))
  all_goals(rename_i d;simp at d;simp at h)
  all_goals(have b:=g10 (X:=X) (Y:=Y) d Dz Dz Dz Dz;have c:=Sp h.1.1.1.1)
  all_goals(try(simp only[AD];omega))
  all_goals(have a:LK W H X Y Q=0:=by rw[LK,Ji d,Ji];omega)
  .rw[PP,a];rfl
  .exact a.symm
def AR(W H i e:Int):Int:=if IL W H i=0 then(if FU (BV W H i) (BW W H i) (BZ W H i) e=0 then LK W H (IC (BV W H i) (BW W H i) (BZ W H i) e) (IH (BV W H i) (BW W H i) (BZ W H i) e) (HJ (BV W H i) (BW W H i) (BZ W H i) e)else 1)else IL W H i
def AE(W H i e:Int):Int:=if IL W H i=0 then(if FU (BV W H i) (BW W H i) (BZ W H i) e=0 then PP W H (IC (BV W H i) (BW W H i) (BZ W H i) e) (IH (BV W H i) (BW W H i) (BZ W H i) e) (HJ (BV W H i) (BW W H i) (BZ W H i) e)else 0)else 0
theorem UU(W H i:Int):0<=BZ W H i/\BZ W H i<=3:=by unfold BZ;split<;>omega
theorem d4k{X Y Q e:Int}(b:0<=Q)(c:0<=e):0<=HJ X Y Q e/\HJ X Y Q e<=3:=by
 unfold HJ;split
 .rename_i h;unfold FU at h;split at h
  .rename_i a;have:=Sp a.1;have:=f8a b Dz c a.2;omega
  .cases h
 .omega
def Rw:AH
 | [.agg [.int .i64 W,.int .i64 H],.int .i64 i,.int .u8 e]=>some (0<=e,.tup [.int .i64 (AE W H i e),.int .i64 (AR W H i e)])
 |_=>none
def b7z:Fam:=⟨Int×Int×Int×Int,λ(W,H,i,e)=>[.agg [.int .i64 W,.int .i64 H],.int .i64 i,.int .u8 e],λ(_,_,_,e)=>0<=e,
 λ(W,H,i,e)=>.tup [.int .i64 (AE W H i e),.int .i64 (AR W H i e)]⟩
theorem UT:PS 32 Rw:=by
 refine con [(90,Wo),(91,VA),(92,kId)] (by simpa using⟨b2b,b01,pId⟩) b7z (λ_ _=>none) Rw ?_ ?_ Tryz.func32 E1 E1 E1 ?_
 .intro args pre s h b;unfold Rw at h;split at h
  .rename_i W H i e;cases h;exact⟨(W,H,i,e),by simp[b7z,BK,SV.le2,SV.le1,BH,SV.le0],b,rfl⟩
  .cases h
 .exact C1
 .rintro⟨W,H,i,e⟩ a;replace a:0<=e:=a;refine X0a _ ?_;(repeat' first|constructor|intro h)<;>refine Lm ?_
  all_goals(try exact a)
  all_goals(try exact(UU W H i).1)
  all_goals(try exact⟨(UU W H i).1,a⟩)
  all_goals(try exact(d4k (UU W H i).1 a).1)
  all_goals(simp at h;(try rename_i c;simp at c);simp[AR,AE, *])
def c1r:AH
 | [.agg [.int .i64 X,.int .i64 Y,.int .u8 _]]=>some (-5000<=X/\X<=5000/\ -5000<=Y/\Y<=5000,.agg [.int .i64 (2*X+1),.int .i64 (2*Y+1)])
 |_=>none
def d7m:Fam:=⟨Int×Int×Int,λ(X,Y,Q)=>[.agg [.int .i64 X,.int .i64 Y,.int .u8 Q]],λ(X,Y,_)=> -5000<=X/\X<=5000/\ -5000<=Y/\Y<=5000,λ(X,Y,_)=>.agg [.int .i64 (2*X+1),.int .i64 (2*Y+1)]⟩
theorem g3u:PS 171 c1r:=by
 refine con [] E2 d7m (λ_ _=>none) c1r ?_ ?_ Tryz.func171 E1 E1 E1 ?_
 .intro args pre s h a;unfold c1r at h;split at h
  .rename_i X Y Q;cases h;exact⟨(X,Y,Q),by simp[d7m,BK,SV.le2,SV.le1,BH,SV.le0],a,rfl⟩
  .cases h
 .exact C0
 .rintro⟨X,Y,Q⟩ a;replace a: -5000<=X/\X<=5000/\ -5000<=Y/\Y<=5000:=a;exact X0h
def o1(Q:Int):Int:=tb [0,2,2,0] Q.toNat
def o2(Q:Int):Int:=tb [2,2,0,0] Q.toNat
def o3(Q:Int):Int:=tb [0,0,2,2] Q.toNat
theorem o_le{Q:Int}(a:0<=Q)(h1:Q<=3):(0<=o1 Q/\o1 Q<=2)/\(0<=o2 Q/\o2 Q<=2)/\0<=o3 Q/\o3 Q<=2:=by have:∀q:Nat,q<4->(0<=o1 q/\o1 q<=2)/\(0<=o2 q/\o2 q<=2)/\0<=o3 q/\o3 q<=2:=E4;have:=this Q.toNat Dz;rwa[Mi a]at this
def ICorn:Nat->Option Inv
 |6=>some (.unroll 4)
 |_=>none
def b57:AH
 | [.agg [.int .i64 X,.int .i64 Y,.int .u8 Q]]=>some (0<=Q,.tup [.agg [.int .i64 (keep (BG X Y Q) (1+2*X)),.int .i64 (keep (BG X Y Q) (1+2*Y)),.int .i64 (keep (BG X Y Q) (o1 Q+2*X)),.int .i64 (keep (BG X Y Q) (o1 Q+2*Y)),.int .i64 (keep (BG X Y Q) (o2 Q+2*X)),.int .i64 (keep (BG X Y Q) (o3 Q+2*Y))],.int .i64 (BG X Y Q)])
 |_=>none
def c8x:Fam:=⟨Int×Int×Int,λ(X,Y,Q)=>[.agg [.int .i64 X,.int .i64 Y,.int .u8 Q]],λ(_,_,Q)=>0<=Q,λ(X,Y,Q)=>.tup [.agg [.int .i64 (keep (BG X Y Q) (1+2*X)),.int .i64 (keep (BG X Y Q) (1+2*Y)),.int .i64 (keep (BG X Y Q) (o1 Q+2*X)),.int .i64 (keep (BG X Y Q) (o1 Q+2*Y)),.int .i64 (keep (BG X Y Q) (o2 Q+2*X)),.int .i64 (keep (BG X Y Q) (o3 Q+2*Y))],.int .i64 (BG X Y Q)]⟩
theorem f55:PS 118 b57:=by
 refine con [(65,Pf)] Hm c8x (λ_=>ICorn) b57 ?_ ?_ Tryz.func118 E1 E1 E1 ?_
 .intro args pre s h a;unfold b57 at h;split at h
  .rename_i X Y Q;cases h;exact⟨(X,Y,Q),by simp[c8x,BK,SV.le2,SV.le1,BH,SV.le0],a,rfl⟩
  .cases h
 .exact C0
 .rintro⟨X,Y,Q⟩ a;replace a:0<=Q:=a;refine X0a _ ?_;(repeat' first|constructor|intro h)<;>refine Lm ?_
  all_goals(have c0:=f2n X Y Q;have c1:=@Sp X Y Q;have o:=@o_le Q a)
  all_goals(try simp only[AD])
  all_goals(first
   |(intros;decide)
   |(change keep _ _=keep _ _;rfl)
   |(change _=keep (BG X Y Q) (o1 Q+2*X);simp[keep]at h⊢;rw[Ji h];rfl)
   |(change _=keep (BG X Y Q) (o1 Q+2*Y);simp[keep]at h⊢;rw[Ji h];rfl)
   |(change _=keep (BG X Y Q) (o2 Q+2*X);simp[keep]at h⊢;rw[Ji h];rfl)
   |(change _=keep (BG X Y Q) (o3 Q+2*Y);simp[keep]at h⊢;rw[Ji h];rfl)
   |(simp only[o1,o2,o3]at o;grind[keep]))
def crn(X Y Q:Int):List SV:=[.int .i64 (keep (BG X Y Q) (1+2*X)),.int .i64 (keep (BG X Y Q) (1+2*Y)),.int .i64 (keep (BG X Y Q) (o1 Q+2*X)),.int .i64 (keep (BG X Y Q) (o1 Q+2*Y)),.int .i64 (keep (BG X Y Q) (o2 Q+2*X)),.int .i64 (keep (BG X Y Q) (o3 Q+2*Y))]
def TT(k C X Y Q:Int):Nat->Bool
 |0=>decide (0<QC k C (keep (BG X Y Q) (1+2*X)) (keep (BG X Y Q) (1+2*Y)))
 |1=>decide (0<QC k C (keep (BG X Y Q) (o1 Q+2*X)) (keep (BG X Y Q) (o1 Q+2*Y)))
 |_=>decide (0<QC k C (keep (BG X Y Q) (o2 Q+2*X)) (keep (BG X Y Q) (o3 Q+2*Y)))
def Rn(k C X Y Q:Int):Bool:=or (TT k C X Y Q 0) (or (TT k C X Y Q 1) (TT k C X Y Q 2))
def NH(k C X Y Q:Int):Int:=if BG X Y Q=0/\AQ k C=0 then 0 else 1
def RL(k C X Y Q:Int):Int:=if NH k C X Y Q=0 then(bif Rn k C X Y Q then 1 else 0)else 0
def ISide:Int×Int×Int×Int×Int->Nat->Option Inv
 |(k,C,X,Y,Q),5=>some {β:=Nat,ok:=λi=>i<=3/\NH k C X Y Q=0/\∀j,j<i->TT k C X Y Q j=false,st:=λi=>⟨[⟨23,none,.int .i64 i⟩,⟨22,none,.agg (crn X Y Q)⟩,⟨5,none,.int .i64 0⟩,⟨4,none,.int .i64 0⟩,⟨2,none,.own 0 0⟩],[.cells 27 [.int .u8 k,.int .i64 C],.cells 103 [.int .i64 X,.int .i64 Y,.int .u8 Q],.cells 224 (crn X Y Q)]⟩,μ:=λi=>3-i}
 |_,_=>none
theorem d2k{k C X Y Q:Int}(h:NH k C X Y Q=0):BG X Y Q=0/\AQ k C=0:=by
 unfold NH at h;split at h
 .assumption
 .cases h
def YM:AH
 | [.agg [.int .u8 k,.int .i64 C],.agg [.int .i64 X,.int .i64 Y,.int .u8 Q]]=>some (0<=Q,.tup [.int .i64 (RL k C X Y Q),.int .i64 (NH k C X Y Q)])
 |_=>none
def c25:Fam:=⟨Int×Int×Int×Int×Int,λ(k,C,X,Y,Q)=>[.agg [.int .u8 k,.int .i64 C],.agg [.int .i64 X,.int .i64 Y,.int .u8 Q]],λ(_,_,_,_,Q)=>0<=Q,λ(k,C,X,Y,Q)=>.tup [.int .i64 (RL k C X Y Q),.int .i64 (NH k C X Y Q)]⟩
theorem c4a:PS 59 YM:=by
 refine con [(118,b57),(46,Sj),(119,c11)] (by simpa using⟨f55,b2r,f96⟩) c25 ISide YM ?_ ?_ Tryz.func59 E1 E1 E1 ?_
 .intro args pre s h b;unfold YM at h;split at h
  .rename_i k C X Y Q;cases h;exact⟨(k,C,X,Y,Q),by simp[c25,BK,SV.le2,SV.le1,BH,SV.le0],b,rfl⟩
  .cases h
 .exact Bz
 .rintro⟨k,C,X,Y,Q⟩ b;replace b:0<=Q:=b;refine X0a _ ?_;(repeat' first|constructor|intro h)<;>refine Lm ?_
  all_goals(first
   |exact b
   |(refine⟨(0:Nat),⟨E4,by grind[NH],λj d=>absurd d Dz⟩,?_,?_⟩)
   |grind[RL,NH])
  .exact X0d
  .intro i l;obtain⟨dj,a,c⟩:=l;have g:=Qb (d2k a).2;have:i=0\/i=1\/i=2\/i=3:=Dz;rcases this with rfl|rfl|rfl|rfl;all_goals refine X0a _ ?_;(repeat' first|constructor|intro h)<;>refine Lm ?_
   all_goals(first
    |decide
    |exact⟨g.1,g.2.1⟩
    |exact A6
    |exact a.symm
    |(have q:Rn k C X Y Q=true:=by
       first
       |(have h:TT k C X Y Q 0=true:=h;simp[Rn,h])
       |(have h:TT k C X Y Q 1=true:=h;simp[Rn,h])
       |(have h:TT k C X Y Q 2=true:=h;simp[Rn,h])
      simp[RL,a,q])
    |(have q:Rn k C X Y Q=false:=by simp[Rn,c 0 Dz,c 1 Dz,c 2 Dz]
      simp[RL,a,q])
    |(refine⟨(1:Nat),⟨E4,a,λj d=> ?_⟩,E4,?_⟩;(have:j=0:=Dz);subst this;exact h)
    |(refine⟨(2:Nat),⟨E4,a,λj d=> ?_⟩,E4,?_⟩;(by_cases e:j=1;(subst e;exact h);exact c j Dz))
    |(refine⟨(3:Nat),⟨E4,a,λj d=> ?_⟩,E4,?_⟩;(by_cases e:j=2;(subst e;exact h);exact c j Dz)))
   all_goals exact X1
def CC(a b:Int):Int:=if a<b then -1 else if a>b then 1 else 0
def kNaN:AH
 | [.int .i64 _]=>some (True,.bool false)
 |_=>none
def FNaN:Fam:=⟨Int,λa=>[.int .i64 a],λ_=>True,λ_=>.bool false⟩
theorem pNaN:PS 96 kNaN:=by
 refine con [] E2 FNaN (λ_ _=>none) kNaN ?_ ?_ Tryz.func96 E1 E1 E1 ?_
 .intro args pre s h b;unfold kNaN at h;split at h
  .rename_i a;cases h;exact⟨a,by simp[FNaN,BK,SV.le2,SV.le1,SV.le0],b,rfl⟩
  .cases h
 .exact C0
 .intro(a:Int) b;replace b:True:=b;exact X1a
def f4k:AH
 | [.int .u8 _]=>some (True,.bool false)
 |_=>none
def FNaN8:Fam:=⟨Int,λa=>[.int .u8 a],λ_=>True,λ_=>.bool false⟩
theorem pNaN8:PS 132 f4k:=by
 refine con [] E2 FNaN8 (λ_ _=>none) f4k ?_ ?_ Tryz.func132 E1 E1 E1 ?_
 .intro args pre s h b;unfold f4k at h;split at h
  .rename_i a;cases h;exact⟨a,by simp[FNaN8,BK,SV.le2,SV.le1,SV.le0],b,rfl⟩
  .cases h
 .exact C0
 .intro(a:Int) b;replace b:True:=b;exact X1a
def f4y:AH
 | [.int .u8 _]=>some (True,.bool false)
 |_=>none
def FNaNk:Fam:=⟨Int,λa=>[.int .u8 a],λ_=>True,λ_=>.bool false⟩
theorem pNaNk:PS 95 f4y:=by
 refine con [] E2 FNaNk (λ_ _=>none) f4y ?_ ?_ Tryz.func95 E1 E1 E1 ?_
 .intro args pre s h b;unfold f4y at h;split at h
  .rename_i a;cases h;exact⟨a,by simp[FNaNk,BK,SV.le2,SV.le1,SV.le0],b,rfl⟩
  .cases h
 .exact C0
 .intro(a:Int) b;replace b:True:=b;exact X1a
def Ro:AH
 | [.int .i64 a,.int .i64 b]=>some (True,.int .i64 (CC a b))
 |_=>none
def FCmp:Fam:=⟨Int×Int,λ(a,b)=>[.int .i64 a,.int .i64 b],λ(_,_)=>True,λ(a,b)=>.int .i64 (CC a b)⟩
theorem Xn:PS 39 Ro:=by
 refine con [(96,kNaN)] (by simpa using pNaN) FCmp (λ_ _=>none) Ro ?_ ?_ Tryz.func39 E1 E1 E1 ?_
 .intro args pre s h c;unfold Ro at h;split at h
  .rename_i a b;cases h;exact⟨(a,b),by simp[FCmp,BK,SV.le2,SV.le1,SV.le0],c,rfl⟩
  .cases h
 .exact Bz
 .rintro⟨a,b⟩ c;replace c:True:=c;refine X0a _ ?_;(repeat' first|constructor|intro h)<;>refine Lm ?_
  all_goals(first|(simp at h;done)|(rename_i d;simp at d;done)|(simp at h;(try rename_i d;simp at d);simp[CC, *]<;>omega))
def d67:AH
 | [.int .u8 a,.int .u8 b]=>some (True,.int .i64 (CC a b))
 |_=>none
def FCmp8:Fam:=⟨Int×Int,λ(a,b)=>[.int .u8 a,.int .u8 b],λ(_,_)=>True,λ(a,b)=>.int .i64 (CC a b)⟩
theorem pCmp8:PS 84 d67:=by
 refine con [(132,f4k)] (by simpa using pNaN8) FCmp8 (λ_ _=>none) d67 ?_ ?_ Tryz.func84 E1 E1 E1 ?_
 .intro args pre s h c;unfold d67 at h;split at h
  .rename_i a b;cases h;exact⟨(a,b),by simp[FCmp8,BK,SV.le2,SV.le1,SV.le0],c,rfl⟩
  .cases h
 .exact Bz
 .rintro⟨a,b⟩ c;replace c:True:=c;refine X0a _ ?_;(repeat' first|constructor|intro h)<;>refine Lm ?_
  all_goals(first|(simp at h;done)|(rename_i d;simp at d;done)|(simp at h;(try rename_i d;simp at d);simp[CC, *]<;>omega))
def f22:AH
 | [.int .u8 a,.int .u8 b]=>some (True,.int .i64 (CC a b))
 |_=>none
def FCmpk:Fam:=⟨Int×Int,λ(a,b)=>[.int .u8 a,.int .u8 b],λ(_,_)=>True,λ(a,b)=>.int .i64 (CC a b)⟩
theorem pCmpk:PS 38 f22:=by
 refine con [(95,f4y)] (by simpa using pNaNk) FCmpk (λ_ _=>none) f22 ?_ ?_ Tryz.func38 E1 E1 E1 ?_
 .intro args pre s h c;unfold f22 at h;split at h
  .rename_i a b;cases h;exact⟨(a,b),by simp[FCmpk,BK,SV.le2,SV.le1,SV.le0],c,rfl⟩
  .cases h
 .exact Bz
 .rintro⟨a,b⟩ c;replace c:True:=c;refine X0a _ ?_;(repeat' first|constructor|intro h)<;>refine Lm ?_
  all_goals(first|(simp at h;done)|(rename_i d;simp at d;done)|(simp at h;(try rename_i d;simp at d);simp[CC, *]<;>omega))
def IU(X Y Q U V R e:Int):Bool:=and (decide (FU X Y Q e=0)) (and (decide (IC X Y Q e=U)) (and (decide (IH X Y Q e=V)) (decide (HJ X Y Q e=R))))
def Tg(X Y Q U V R:Int):Bool:=and (decide (BG X Y Q=0)) (decide (BG U V R=0))
def NY(X Y Q U V R:Int)(l:List Int):Int:=match l with
 | []=>3
 |e::l=>bif IU X Y Q U V R e then e else NY X Y Q U V R l
def d7s(X Y Q U V R:Int):Int:=bif Tg X Y Q U V R then(if NY X Y Q U V R [0,1,2]=3 then 7 else 0)else 1
def Qt(X Y Q U V R:Int):Int:=bif Tg X Y Q U V R then(if NY X Y Q U V R [0,1,2]=3 then 0 else NY X Y Q U V R [0,1,2])else 0
theorem g0j{X Y Q U V R:Int}(i:Nat)(hi:i<3)(h:IU X Y Q U V R i=true)(a:∀j:Nat,j<i->IU X Y Q U V R j=false):NY X Y Q U V R [0,1,2]=i:=by
 have:i=0\/i=1\/i=2:=Dz;rcases this with rfl|rfl|rfl
 .simp only[NY];rw[show IU X Y Q U V R 0=true from h];rfl
 .simp only[NY];rw[show IU X Y Q U V R 0=false from a 0 Dz,show IU X Y Q U V R 1=true from h];rfl
 .simp only[NY];rw[show IU X Y Q U V R 0=false from a 0 Dz,show IU X Y Q U V R 1=false from a 1 Dz,show IU X Y Q U V R 2=true from h];rfl
theorem f58{X Y Q U V R:Int}(a:∀j:Nat,j<3->IU X Y Q U V R j=false):NY X Y Q U V R [0,1,2]=3:=by simp only[NY];rw[show IU X Y Q U V R 0=false from a 0 Dz,show IU X Y Q U V R 1=false from a 1 Dz,show IU X Y Q U V R 2=false from a 2 Dz];rfl
def ITouch:Int×Int×Int×Int×Int×Int->Nat->Option Inv
 |(X,Y,Q,U,V,R),4=>some {β:=Nat,ok:=λi=>i<=3/\Tg X Y Q U V R=true/\∀j:Nat,j<i->IU X Y Q U V R j=false,st:=λi=>⟨[⟨17,none,.int .u8 i⟩,⟨5,none,.int .i64 0⟩,⟨4,none,.int .u8 0⟩,⟨3,none,.own 1 0⟩,⟨2,none,.own 0 0⟩],[.cells 103 [.int .i64 X,.int .i64 Y,.int .u8 Q],.cells 103 [.int .i64 U,.int .i64 V,.int .u8 R]]⟩,μ:=λi=>3-i}
 |_,_=>none
def c6v:AH
 | [.agg [.int .i64 X,.int .i64 Y,.int .u8 Q],.agg [.int .i64 U,.int .i64 V,.int .u8 R]]=>some (0<=Q/\0<=R,.tup [.int .u8 (Qt X Y Q U V R),.int .i64 (d7s X Y Q U V R)])
 |_=>none
def f6p:Fam:=⟨Int×Int×Int×Int×Int×Int,λ(X,Y,Q,U,V,R)=>[.agg [.int .i64 X,.int .i64 Y,.int .u8 Q],.agg [.int .i64 U,.int .i64 V,.int .u8 R]],λ(_,_,Q,_,_,R)=>0<=Q/\0<=R,λ(X,Y,Q,U,V,R)=>.tup [.int .u8 (Qt X Y Q U V R),.int .i64 (d7s X Y Q U V R)]⟩
theorem pTouch:PS 33 c6v:=by
 refine con [(65,Pf),(91,VA)] (by simpa using⟨Vu,b01⟩) f6p ITouch c6v ?_ ?_ Tryz.func33 E1 E1 E1 ?_
 .intro args pre s h a;unfold c6v at h;split at h
  .rename_i X Y Q U V R;cases h;exact⟨(X,Y,Q,U,V,R),by simp[f6p,BK,SV.le2,SV.le1,BH,SV.le0],a,rfl⟩
  .cases h
 .exact Bz
 .rintro⟨X,Y,Q,U,V,R⟩ a;replace a:0<=Q/\0<=R:=a;refine X0a _ ?_;(repeat' first|constructor|intro h)<;>refine Lm ?_
  all_goals(first
   |(refine⟨(0:Nat),⟨E4,by grind[Tg],λj f=>absurd f Dz⟩,?_,?_⟩)
   |grind[Qt,d7s,Tg])
  .exact X0d
  .intro i g;obtain⟨dj,k,c⟩:=g;refine X0a _ ?_;(repeat' first|constructor|intro h)<;>refine Lm ?_
   all_goals(first
    |exact⟨a.1,Dz⟩
    |(have d:i<3:=by grind
      first
      |(have q:IU X Y Q U V R i=true:=by simpa[IU]using h
        have t:=g0j i d q c;grind[Qt,d7s])
      |exact A6
      |(have q:IU X Y Q U V R i=false:=by(have q:=h;rw[<-Bool.not_eq_true]at q⊢;intro l;apply q;simpa[IU]using l)
        refine⟨i+1,⟨Dz,k,λj f=> ?_⟩,Dz,?_⟩
        .by_cases e:j=i
         .subst e;exact q
         .exact c j Dz))
    |(have d:i=3:=by grind
      subst d;have t:=f58 c;grind[Qt,d7s]))
   all_goals exact X1
def Il(Q:Int):Int:=tb [2,1,2,1] Q.toNat
def KS(Q:Int):Int:=tb [0,1,1,0] Q.toNat
theorem lq_le{Q:Int}(a:0<=Q)(h1:Q<=3):(Il Q=1\/Il Q=2)/\0<=KS Q/\KS Q<=1:=by have:∀q:Nat,q<4->(Il q=1\/Il q=2)/\0<=KS q/\KS q<=1:=E4;have:=this Q.toNat Dz;rwa[Mi a]at this
def DH(Q e:Int):Int:=if e=1 then 3 else if e=2 then 4 else Il Q
def DK(X Y Q e:Int):Int:=if e=1 then X+Y+1 else if e=2 then Y-X else if Il Q=2 then Y+KS Q else X+KS Q
def QE(X Y Q e:Int):Int:=if BG X Y Q=0/\e<=2 then(if AQ (DH Q e) (DK X Y Q e)=0 then 0 else 3)else 1
def Yb:AH
 | [.agg [.int .i64 X,.int .i64 Y,.int .u8 Q],.int .u8 e]=>some (0<=Q/\0<=e,.tup [.agg [.int .u8 (keep (QE X Y Q e) (DH Q e)),.int .i64 (keep (QE X Y Q e) (DK X Y Q e))],.int .i64 (QE X Y Q e)])
 |_=>none
def c42:Fam:=⟨Int×Int×Int×Int,λ(X,Y,Q,e)=>[.agg [.int .i64 X,.int .i64 Y,.int .u8 Q],.int .u8 e],λ(_,_,Q,e)=>0<=Q/\0<=e,λ(X,Y,Q,e)=>.tup [.agg [.int .u8 (keep (QE X Y Q e) (DH Q e)),.int .i64 (keep (QE X Y Q e) (DK X Y Q e))],.int .i64 (QE X Y Q e)]⟩
theorem c2m:PS 34 Yb:=by
 refine con [(65,Pf),(46,Sj)] (by simpa using⟨Vu,b2r⟩) c42 (λ_ _=>none) Yb ?_ ?_ Tryz.func34 E1 E1 E1 ?_
 .intro args pre s h a;unfold Yb at h;split at h
  .rename_i X Y Q e;cases h;exact⟨(X,Y,Q,e),by simp[c42,BK,SV.le2,SV.le1,BH,SV.le0],a,rfl⟩
  .cases h
 .exact Bz
 .rintro⟨X,Y,Q,e⟩ a;replace a:0<=Q/\0<=e:=a;refine X0a _ ?_;(repeat' first|constructor|intro h)<;>refine Lm ?_
  all_goals(have c1:=@Sp X Y Q;have o:=@lq_le Q a.1)
  all_goals(try simp only[AD])
  all_goals(simp only[Il,KS]at o)
  all_goals grind[QE,DH,DK,keep,Il,KS]
def SP(a b c d e f:Int):Int:=if CC a b=0 then(if CC c d=0 then CC e f else CC c d)else CC a b
def f5u(a b c d e f:Int)(i:Nat):List SV:=[.int .i64 (tb [a,c,e] i),.int .i64 (tb [b,d,f] i)]
def kOrd:AH
 | [.sl 2 3 g _]=>match g 0,g 1,g 2 with
   | [.int .i64 a,.int .i64 b],[.int .i64 c,.int .i64 d],[.int .i64 e,.int .i64 f]=>some (True,.int .i64 (SP a b c d e f))
   |_,_,_=>none
 |_=>none
def FOrd:Fam:=⟨Int×Int×Int×Int×Int×Int,λ(a,b,c,d,e,f)=>[.sl 2 3 (f5u a b c d e f) none],λ_=>True,λ(a,b,c,d,e,f)=>.int .i64 (SP a b c d e f)⟩
def IOrd(a b c d e f:Int):Nat->Option Inv
 |2=>some {β:=Nat,ok:=λi=>i<=3/\∀j,j<i->CC (tb [a,c,e] j) (tb [b,d,f] j)=0,st:=λi=>⟨[⟨8,none,.int .i64 i⟩,⟨7,none,.int .i64 3⟩,⟨6,none,.sl 2 3 (f5u a b c d e f) none⟩,⟨2,none,.int .i64 0⟩],[]⟩,μ:=λi=>3-i}
 |_=>none
theorem pOrd:PS 126 kOrd:=by
 refine con [(39,Ro)] (by simpa using Xn) FOrd (λ(a,b,c,d,e,f)=>IOrd a b c d e f) kOrd ?_ ?_ Tryz.func126 E1 E1 E1 ?_
 .intro args pre s h hp;unfold kOrd at h;split at h
  .split at h
   .rename_i g cp _ _ _ a b c d e f o r w;cases h;refine⟨(a,b,c,d,e,f),?_,Jm,rfl⟩;simp only[FOrd,BK,SV.le2,SV.le1,SV.le0,HN,and_true,O5,L1];refine SH ?_;intro i l;match i,l with
    |0,_=>exact o
    |1,_=>exact r
    |2,_=>exact w
   .cases h
  .cases h
 .exact C0
 .rintro⟨a,b,c,d,e,f⟩-;refine X0a _ ?_;(repeat' first|constructor|intro h)<;>refine Lm ?_
  refine⟨(0:Nat),⟨Dz,λj x=>Dz⟩,?_,?_⟩
  .refine X0a _ ?_;(repeat' first|constructor|intro h)<;>refine Lm ?_
   all_goals first|exact A8
  .intro i l;obtain⟨dj,k⟩:=l;refine X0a _ ?_;(repeat' first|constructor|intro h)<;>refine Lm ?_
   all_goals(first
    |decide
    |exact⟨Dz,by grind⟩
    |(simp only[AD];grind)
    |(have n:i<3:=by grind
      have q:CC (tb [a,c,e] i) (tb [b,d,f] i)=0:=E6;refine⟨i+1,⟨Dz,λj x=> ?_⟩,Dz,?_⟩
      .by_cases e:j=i
       .subst e;exact q
       .exact k j Dz)
    |(have n:i<3:=by grind
      have q:¬CC (tb [a,c,e] i) (tb [b,d,f] i)=0:=E6;have:i=0\/i=1\/i=2:=Dz;rcases this with rfl|rfl|rfl
      .simp[tb]at q;simp[SP,q,tb]
      .have:=k 0 Dz;simp[tb]at q this;simp[SP,q,tb,this]
      .have:=k 0 Dz;have t:=k 1 Dz;simp[tb]at q this t;simp[SP,tb,this,t])
    |(have n:i=3:=by grind
      subst n;have u:=k 0 Dz;have t:=k 1 Dz;have v:=k 2 Dz;simp[tb]at u t v;simp[SP,u,t,v])
    |skip)
   all_goals exact X1
def GM(X Y Q U V R:Int):Int:=SP Y V X U Q R
def Sx:AH
 | [.agg [.int .i64 X,.int .i64 Y,.int .u8 Q],.agg [.int .i64 U,.int .i64 V,.int .u8 R]]=>some (AD .u8 Q/\AD .u8 R,.int .i64 (GM X Y Q U V R))
 |_=>none
def b44:Fam:=⟨Int×Int×Int×Int×Int×Int,λ(X,Y,Q,U,V,R)=>[.agg [.int .i64 X,.int .i64 Y,.int .u8 Q],.agg [.int .i64 U,.int .i64 V,.int .u8 R]],λ(_,_,Q,_,_,R)=>AD .u8 Q/\AD .u8 R,λ(X,Y,Q,U,V,R)=>.int .i64 (GM X Y Q U V R)⟩
theorem b14:PS 69 Sx:=by
 refine con [(126,kOrd)] (by simpa using pOrd) b44 (λ_ _=>none) Sx ?_ ?_ Tryz.func69 E1 E1 E1 ?_
 .intro args pre s h a;unfold Sx at h;split at h
  .rename_i X Y Q U V R;cases h;exact⟨(X,Y,Q,U,V,R),by simp[b44,BK,SV.le2,SV.le1,BH,SV.le0],a,rfl⟩
  .cases h
 .exact Bz
 .rintro⟨X,Y,Q,U,V,R⟩ a;replace a:AD .u8 Q/\AD .u8 R:=a;refine X0a _ ?_;(repeat' first|constructor|intro h)<;>refine Lm ?_
  all_goals(first|rfl|(simp only[AD]at*;omega))
def EI(W H i e:Int):Int:=if AR W H i e=0 then min i (AE W H i e)else 0
def FI(W H i e:Int):Int:=if AR W H i e=0 then e else 0
def UC:AH
 | [.agg [.int .i64 W,.int .i64 H],.int .i64 i,.int .u8 e]=>some (0<=e,.tup [.agg [.int .i64 (EI W H i e),.int .u8 (FI W H i e)],.int .i64 (AR W H i e)])
 |_=>none
def FName:Fam:=⟨Int×Int×Int×Int,λ(W,H,i,e)=>[.agg [.int .i64 W,.int .i64 H],.int .i64 i,.int .u8 e],λ(_,_,_,e)=>0<=e,λ(W,H,i,e)=>.tup [.agg [.int .i64 (EI W H i e),.int .u8 (FI W H i e)],.int .i64 (AR W H i e)]⟩
theorem f1s:PS 134 UC:=by
 refine con [(32,Rw)] (by simpa using UT) FName (λ_ _=>none) UC ?_ ?_ Tryz.func134 E1 E1 E1 ?_
 .intro args pre s h a;unfold UC at h;split at h
  .rename_i W H i e;cases h;exact⟨(W,H,i,e),by simp[FName,BK,SV.le2,SV.le1,BH,SV.le0],a,rfl⟩
  .cases h
 .exact C1
 .rintro⟨W,H,i,e⟩ a;replace a:0<=e:=a;refine X0a _ ?_;(repeat' first|constructor|intro h)<;>refine Lm ?_
  all_goals(try exact a)
  all_goals(simp at h;simp[EI,FI,h])
def d8i:AH
 | [.agg [.int .i64 a,.int .u8 b,.int .u8 _]]=>some (True,.agg [.int .i64 a,.int .u8 b])
 |_=>none
def FUnit:Fam:=⟨Int×Int×Int,λ(a,b,c)=>[.agg [.int .i64 a,.int .u8 b,.int .u8 c]],λ(_,_,_)=>True,λ(a,b,_)=>.agg [.int .i64 a,.int .u8 b]⟩
theorem pUnit:PS 185 d8i:=by
 refine con [] E2 FUnit (λ_ _=>none) d8i ?_ ?_ Tryz.func185 E1 E1 E1 ?_
 .intro args pre s h d;unfold d8i at h;split at h
  .rename_i a b c;cases h;exact⟨(a,b,c),by simp[FUnit,BK,SV.le2,SV.le1,BH,SV.le0],d,rfl⟩
  .cases h
 .exact C0
 .rintro⟨a,b,c⟩ d;replace d:True:=d;refine X0a _ ?_;(repeat' first|constructor|intro h)<;>refine Lm ?_
def IW(a b c d:Int):Int:=if a=c then b-d else a-c
def YC:AH
 | [.agg [.int .i64 a,.int .u8 b],.agg [.int .i64 c,.int .u8 d]]=>some (AD .i64 (a-c)/\AD .u8 b/\AD .u8 d,.int .i64 (IW a b c d))
 |_=>none
def f78:Fam:=⟨Int×Int×Int×Int,λ(a,b,c,d)=>[.agg [.int .i64 a,.int .u8 b],.agg [.int .i64 c,.int .u8 d]],λ(a,b,c,d)=>AD .i64 (a-c)/\AD .u8 b/\AD .u8 d,λ(a,b,c,d)=>.int .i64 (IW a b c d)⟩
theorem f63:PS 186 YC:=by
 refine con [] E2 f78 (λ_ _=>none) YC ?_ ?_ Tryz.func186 E1 E1 E1 ?_
 .intro args pre s h e;unfold YC at h;split at h
  .rename_i a b c d;cases h;exact⟨(a,b,c,d),by simp[f78,BK,SV.le2,SV.le1,BH,SV.le0],e,rfl⟩
  .cases h
 .exact Bz
 .rintro⟨a,b,c,d⟩ e;replace e:AD .i64 (a-c)/\AD .u8 b/\AD .u8 d:=e;refine X0a _ ?_;(repeat' first|constructor|intro h)<;>refine Lm ?_
  all_goals(simp at h)
  all_goals(try(simp[IW,h];done))
  all_goals(simp only[AD]at e⊢;omega)
def RW(k:Int):Bool:=decide (1<=k)&&decide (k<=3)
def b9g:AH
 | [.int .u8 k]=>some (True,.bool (RW k))
 |_=>none
def d80:Fam:=⟨Int,λk=>[.int .u8 k],λ_=>True,λk=>.bool (RW k)⟩
theorem g2g:PS 184 b9g:=by
 refine con [] E2 d80 (λ_ _=>none) b9g ?_ ?_ Tryz.func184 E1 E1 E1 ?_
 .intro args pre s h a;unfold b9g at h;split at h
  .rename_i k;cases h;exact⟨k,by simp[d80,BK,SV.le2,SV.le1,SV.le0],a,rfl⟩
  .cases h
 .exact C0
 .intro(k:Int) a;replace a:True:=a;exact X0g
def c0g:AH
 | [.agg [.int .i64 _,.int .u8 _,.int .u8 k]]=>some (True,.bool (!RW k))
 |_=>none
def d48:Fam:=⟨Int×Int×Int,λ(a,b,k)=>[.agg [.int .i64 a,.int .u8 b,.int .u8 k]],λ(_,_,_)=>True,λ(_,_,k)=>.bool (!RW k)⟩
theorem g15:PS 183 c0g:=by
 refine con [(184,b9g)] (by simpa using g2g) d48 (λ_ _=>none) c0g ?_ ?_ Tryz.func183 E1 E1 E1 ?_
 .intro args pre s h c;unfold c0g at h;split at h
  .rename_i a b k;cases h;exact⟨(a,b,k),by simp[d48,BK,SV.le2,SV.le1,BH,SV.le0],c,rfl⟩
  .cases h
 .exact C0
 .rintro⟨a,b,k⟩ c;replace c:True:=c;refine X0a _ ?_;(repeat' first|constructor|intro h)<;>refine Lm ?_
def OH(x:Cr):Bool:= !RW x.k
def Ta(p:Cr->Bool)(l:List Cr):Int:=match l.findIdx? p with
 |some i=>i
 |none=> -1
theorem f2v{p:Cr->Bool}{l:List Cr}{i:Nat}(hi:i<l.length)(h:∀j,j<i->p (l.getD j d0)=false)(a:p (l.getD i d0)=true):Ta p l=i:=by
 have:l.findIdx? p=some i:=by
  rw[L7];refine⟨hi,?_,λj b=> ?_⟩
  .simpa[Jg,hi]using a
  .have:=h j b;have c:j<l.length:=Dz;simpa[Jg,c]using this
 simp[Ta,this]
theorem d5x{p:Cr->Bool}{l:List Cr}(h:∀j,j<l.length->p (l.getD j d0)=false):Ta p l= -1:=by
 have:l.findIdx? p=none:=by rw[Lu];intro x hx;obtain⟨j,a,rfl⟩:=Kg.1 hx;have:=h j a;simpa[Jg,a]using this
 simp[Ta,this]
theorem f1i(p:Cr->Bool)(l:List Cr):decide (0<=Ta p l)=l.any p:=by
 unfold Ta;cases h:l.findIdx? p with
 |none=>
  have:=Lu.1 h;have:l.any p=false:=by rw[K2];intro x hx;simpa using this x hx
  rw[this];rfl
 |some i=>
  have:=L7.1 h;obtain⟨a,b,_⟩:=this;have:l.any p=true:=K1.2 ⟨_,Kj a,b⟩;rw[this];simp
def b1n:AH
 | [x,.clo g []]=>if g=183 then match Po x with
   |some (n,f)=>some (MI n f/\n<=100000,.int .i64 (Ta OH (FX n f)))
   |none=>none
   else none
 |_=>none
def b8v:Fam:=⟨List Cr,λl=>[.sl 3 l.length (Eo l) none,.clo 183 []],λl=>l.length<=100000,λl=>.int .i64 (Ta OH l)⟩
def d29(l:List Cr):Nat->Option Inv
 |2=>some {β:=Nat,ok:=λi=>i<=l.length/\∀j,j<i->OH (l.getD j d0)=false,st:=λi=>⟨[⟨8,none,.int .i64 i⟩,⟨7,none,.int .i64 l.length⟩,⟨0,none,.sl 3 l.length (Eo l) none⟩,⟨1,none,.clo 183 []⟩],[]⟩,μ:=λi=>l.length-i}
 |_=>none
theorem d1z:PS 235 b1n:=by
 refine con [(183,c0g)] (by simpa using g15) b8v (λl=>d29 l) b1n ?_ ?_ Tryz.func235 E1 E1 E1 ?_
 .intro args pre s h a;unfold b1n at h;split at h
  .split at h
   .rename_i k;subst k;split at h
    .rename_i n f hx;cases h;exact⟨FX n f,⟨JL (TP hx a.1),⟨rfl,rfl⟩,Jm⟩,by simp only[b8v,TY];exact a.2,rfl⟩
    .cases h
   .cases h
  .cases h
 .exact Bz
 .intro(l:List Cr) a;replace a:l.length<=100000:=a;refine X0a _ ?_;(repeat' first|constructor|intro h)<;>refine Lm ?_
  refine⟨(0:Nat),⟨Dz,λj g=>Dz⟩,?_,?_⟩
  .exact X0d
  .rintro i ⟨dj,d⟩;refine X0a _ ?_;(repeat' first|constructor|intro h)<;>refine Lm ?_
   .simp at h;omega
   .rename_i b;simp at b;exact(f2v b d h).symm
   .simp only[AD];omega
   .rename_i b;simp at b;refine⟨i+1,⟨Dz,λj g=> ?_⟩,Dz,?_⟩
    .by_cases e:j=i
     .subst e;exact h
     .exact d j Dz
    .exact X1
   .simp at h;exact(d5x (λj g=>d j Dz)).symm
def b34:AH
 | [x,.clo g []]=>if g=183 then match Po x with
   |some (n,f)=>some (MI n f/\n<=100000,.bool ((FX n f).any OH))
   |none=>none
   else none
 |_=>none
def c49:Fam:=⟨List Cr,λl=>[.sl 3 l.length (Eo l) none,.clo 183 []],λl=>l.length<=100000,λl=>.bool (l.any OH)⟩
theorem d4i:PS 182 b34:=by
 refine con [(235,b1n)] (by simpa using d1z) c49 (λ_ _=>none) b34 ?_ ?_ Tryz.func182 E1 E1 E1 ?_
 .intro args pre s h a;unfold b34 at h;split at h
  .split at h
   .rename_i b;subst b;split at h
    .rename_i n f hx;cases h;exact⟨FX n f,⟨JL (TP hx a.1),⟨rfl,rfl⟩,Jm⟩,by simp only[c49,TY];exact a.2,rfl⟩
    .cases h
   .cases h
  .cases h
 .exact Bz
 .intro(l:List Cr) a;replace a:l.length<=100000:=a;refine X0a _ ?_;(repeat' first|constructor|intro h)<;>refine Lm ?_
  .exact⟨FT l,a⟩
  .rw[CE];exact f1i _ _
structure Pt where
 W:Int
 H:Int
 l:List Cr
 deriving DecidableEq
def KC(p:Pt):SV:=.agg [.int .i64 p.W,.int .i64 p.H,.sl 3 p.l.length (Eo p.l) none]
def Pl:SV->Option (Prop×Pt)
 |.agg [.int .i64 W,.int .i64 H,x]=>(Po x).map λq=>(MI q.1 q.2/\q.1<=100000,⟨W,H,FX q.1 q.2⟩)
 |_=>none
theorem RC{s:SV}{q:Prop}{p:Pt}(h:Pl s=some (q,p))(a:q):s.le2 (KC p)/\p.l.length<=100000:=by
 unfold Pl at h;split at h
 .rename_i W H x;rw[Jq]at h;obtain⟨⟨n,f⟩,hx,h⟩:=h;cases h;refine⟨?_,by simp only[TY];exact a.2⟩;simp only[KC,SV.le2,SV.le1,BH,and_true];exact⟨E7,E7,TP hx a.1⟩
 .cases h
structure Pa where
 a:Int
 b:Int
 deriving DecidableEq
def CK:RT Pa:=⟨2,λp=>[.int .i64 p.a,.int .i64 p.b],λl=>match l with
 | [.int _ a,.int _ b]=>⟨a,b⟩
 |_=>⟨0,0⟩,⟨0,0⟩,λ_=>rfl⟩
structure Lo where
 s:Int
 a:Int
 b:Int
 deriving DecidableEq
def CB:RT Lo:=⟨3,λp=>[.int .u8 p.s,.int .i64 p.a,.int .i64 p.b],λl=>match l with
 | [.int _ s,.int _ a,.int _ b]=>⟨s,a,b⟩
 |_=>⟨0,0,0⟩,⟨0,0,0⟩,λ_=>rfl⟩
structure Sm where
 a:Cl
 b:Cl
 ps:List Pa
 ls:List Lo
 en:List Int
 deriving DecidableEq
def BM:Sm:=⟨⟨0,0,0⟩,⟨0,0,0⟩,[],[],[]⟩
def CZ(s:Sm):List Int:=[s.a.x,s.a.y,s.a.q,s.b.x,s.b.y,s.b.q]
def EE(S:List Sm)(q:List Int):Bool:=S.any λs=>decide (CZ s=q)
def EC(S:List Sm)(q:List Int):Nat:=S.findIdx λs=>decide (CZ s=q)
def KU(s:Sm):Mem:=⟨[.int .i64 s.a.x,.int .i64 s.a.y,.int .u8 s.a.q,.int .i64 s.b.x,.int .i64 s.b.y,.int .u8 s.b.q,.osl 0,.osl 1,.osl 2],[(s.ps.length,CK.row s.ps),(s.ls.length,CB.row s.ls),(s.en.length,AC.row s.en)]⟩
def KX(S:List Sm)(i:Nat):List SV:=[.int .i64 (S.getD i BM).a.x,.int .i64 (S.getD i BM).a.y,.int .u8 (S.getD i BM).a.q,.int .i64 (S.getD i BM).b.x,.int .i64 (S.getD i BM).b.y,.int .u8 (S.getD i BM).b.q]
theorem f2q(S:List Sm)(s:Sm)(q:List Int):KV (EE S) (CZ s) q=EE (S++[s]) q:=by unfold KV EE;rw[O2];simp only[List.any_cons,List.any_nil,N1];rw[Bool.or_comm];congr 1;rw[Lw];simp only[Ju];exact⟨λh=>h.symm,λh=>h.symm⟩
theorem f11(S:List Sm)(s:Sm)(q:List Int)(a:EE S (CZ s)=false)(h:EE (S++[s]) q=true):(if q=CZ s then S.length else EC S q)=EC (S++[s]) q:=by
 unfold EC EE at*;rw[List.findIdx_append];by_cases e:q=CZ s
 .subst e;have:S.findIdx (λx=>decide (CZ x=CZ s))=S.length:=by
   rw[List.findIdx_eq_length];intro x hx;have:=K2.1 a x hx;simpa using this
  rw[Ji rfl,this,Jj (N0 _)];simp[List.findIdx_cons]
 .rw[Jj e];have:S.any (λx=>decide (CZ x=q))=true:=by
   rw[O2]at h;simpa[Ne.symm e]using h
  have b:S.findIdx (λx=>decide (CZ x=q))<S.length:=by rw[List.findIdx_lt_length];obtain⟨x,hx,c⟩:=K1.1 this;exact⟨x,hx,c⟩
  rw[Ji b]
theorem Oh{S:List Sm}{q:List Int}(h:EE S q=true):EC S q<S.length:=by unfold EC;rw[List.findIdx_lt_length];obtain⟨x,hx,a⟩:=K1.1 h;exact⟨x,hx,a⟩
def PK(x y:Cl):Cl:=if 0<GM x.x x.y x.q y.x y.y y.q then y else x
def Oz(x y:Cl):Cl:=if 0<GM x.x x.y x.q y.x y.y y.q then x else y
def KO(x y:Cl):List Int:=CZ ⟨PK x y,Oz x y,[],[],[]⟩
def EK(S:List Sm)(x y:Cl):List Sm:=if EE S (KO x y)=true then S else S++[⟨PK x y,Oz x y,[],[],[]⟩]
structure Bd where
 p:Pt
 pl:List Mv
 im:List Cl
 ht:List Int
def g2t(b:Bd):Blk:=.cells 208 [.int .i64 b.p.W,.int .i64 b.p.H,.sl 3 b.p.l.length (Eo b.p.l) none,.sl 3 b.pl.length (AG.row b.pl) none,.sl 3 b.im.length (CJ.row b.im) none,.osl 1,.omp 2,.osl 3]
def Tx(b:Bd)(S:List Sm):List Blk:=[g2t b,.row 3 1 b.ht.length (AC.row b.ht) none,.pmap (.ints [.i64,.i64,.u8,.i64,.i64,.u8]) 4 (EE S) (EC S),.row 213 6 S.length (KX S) none,
 .fam 135 [(262,2),(138,3),(3,1)] S.length none (λi=>KU (S.getD i BM))]
def UK(m:Mem):Sm:=match m with
 |⟨[.int _ a,.int _ b,.int _ c,.int _ d,.int _ e,.int _ f,_,_,_],[g,h,i]⟩=>⟨⟨a,b,c⟩,⟨d,e,f⟩,CK.lst g.1 g.2,CB.lst h.1 h.2,AC.lst i.1 i.2⟩
 |_=>BM
theorem b4y(s:Sm):UK (KU s)=s:=by have a:=RT.lst_row CK s.ps;have b:=RT.lst_row CB s.ls;have c:=RT.lst_row AC s.en;simp only[KU,UK,a,b,c]
def LU(n:Nat)(F:Nat->Mem):List Sm:=(List.range n).map λi=>UK (F i)
theorem YE(S:List Sm):LU S.length (λi=>KU (S.getD i BM))=S:=by
 unfold LU;apply Mh;intro i;by_cases a:i<S.length
 .simp[a,b4y]
 .simp at a;simp[a]
theorem b3z(n:Nat)(F:Nat->Mem):(LU n F).length=n:=by simp[LU]
def asBd:List Blk->Option (Prop×Bd×List Sm)
 | [.cells k [.int .i64 W,.int .i64 H,l,pl,m,.osl k1,.omp k2,.osl k3],.row o p c d _,.pmap K k4 b BU,.row r s e t _,.fam u v a w F]=>
   match Po l,AG.as pl,CJ.as m with
   |some (n,f),some (g,f2),some (h,j)=>if(k=208/\k1=1/\k2=2/\k3=3/\o=3/\p=1)/\(K=.ints [.i64,.i64,.u8,.i64,.i64,.u8]/\k4=4/\r=213/\s=6)/\u=135/\v=[(262,2),(138,3),(3,1)]/\w=none then
    some (((MI n f/\n<=100000)/\AG.is g f2/\CJ.is h j/\AC.is c d)/\e=a/\(∀i,i<e->t i=KX (LU a F) i)/\(∀q,b q=EE (LU a F) q)/\(∀q,b q=true->BU q=EC (LU a F) q)/\∀i,i<a->(F i).le (KU (UK (F i))),
    ⟨⟨W,H,FX n f⟩,AG.lst g f2,CJ.lst h j,AC.lst c d⟩,LU a F)
    else none
   |_,_,_=>none
 |_=>none
theorem d3n{own:List Blk}{q:Prop}{b:Bd}{S:List Sm}(h:asBd own=some (q,b,S))(d:q):own.length=5/\TL 5 own (Tx b S)/\b.p.l.length<=100000:=by
 unfold asBd at h;split at h;rotate_left
 .cases h
 rename_i T1 W H cr pl im k1 k2 k3 T2 z2 e g c1 K k4 has BU T3 z3 a kf c2 T4 Ts fn bz F;split at h;rotate_left
 .cases h
 rename_i n f n2 f2 n3 f3 h1 h2 h3;split at h;rotate_left
 .cases h
 rename_i j;obtain⟨⟨rfl,rfl,rfl,rfl,rfl,rfl⟩,⟨rfl,rfl,rfl,rfl⟩,rfl,rfl,rfl⟩:=j;simp only[Iv]at h;obtain⟨rfl,rfl,rfl⟩:=h;obtain⟨⟨q1,q2,q3,k⟩,rfl,m,o,r,s⟩:=d;refine⟨rfl,⟨⟨?_,?_⟩,⟨?_,?_,?_,?_⟩,⟨?_,o,r⟩,⟨?_,?_,?_,?_⟩,⟨?_,?_,rfl,?_⟩,Jm⟩,Hn⟩
 .exact Cc
 .exact Dp
 .exact Cc
 .exact(RT.lst_length AC e g).symm
 .exact Jm
 .exact SH (AC.row_lst k)
 .rw[Ji ⟨rfl,rfl,E4⟩];trivial
 .exact Cc
 .exact(b3z a F).symm
 .exact Jm
 .exact SH m
 .rw[Ji ⟨rfl,rfl,rfl⟩];trivial
 .exact(b3z a F).symm
 .intro i c;have:(LU a F).getD i BM=UK (F i):=by simp[LU,c]
  show (F i).le (KU ((LU a F).getD i BM));rw[this];exact s i c
theorem b7g:∀l:List (Nat×(Nat->List SV)),c76 l l
 | []=>trivial
 |_::r=>⟨rfl,λ_ _=>rfl,b7g r⟩
theorem VK(m:Mem):m.le m:=⟨rfl,b7g _⟩
abbrev sN(l h:Cl):Sm:=⟨l,h,[],[],[]⟩
section
variable{S:List Sm}{l h:Cl}
theorem d4c:KV (EE S) [l.x,l.y,l.q,h.x,h.y,h.q] [l.x,l.y,l.q,h.x,h.y,h.q]=true:=by simp[KV]
theorem f6u:∀q,KV (EE S) [l.x,l.y,l.q,h.x,h.y,h.q] q=EE (S++[sN l h]) q:=f2q S (sN l h)
theorem f5g(a:EE S [l.x,l.y,l.q,h.x,h.y,h.q]=false):∀q,KV (EE S) [l.x,l.y,l.q,h.x,h.y,h.q] q=true->(if q=[l.x,l.y,l.q,h.x,h.y,h.q]then S.length else EC S q)=EC (S++[sN l h]) q:=λq b=>f11 S (sN l h) q a (by rw[<-f6u];exact b)
theorem g1y(a:EE S [l.x,l.y,l.q,h.x,h.y,h.q]=false):(if [l.x,l.y,l.q,h.x,h.y,h.q]=[l.x,l.y,l.q,h.x,h.y,h.q]then S.length else EC S [l.x,l.y,l.q,h.x,h.y,h.q])=EC (S++[sN l h]) [l.x,l.y,l.q,h.x,h.y,h.q]:=f5g a _ d4c
theorem at_len:S.length+1=(S++[sN l h]).length:=E2
theorem at_row:∀i,i<S.length+1->(if i<S.length then KX S i else(List.map (λx:Nat×List SV=>x.snd) [(0,[SV.int .i64 l.x,.int .i64 l.y,.int .u8 l.q,.int .i64 h.x,.int .i64 h.y,.int .u8 h.q])].reverse).getD (i-S.length) [])=KX (S++[sN l h]) i:=by
 intro i hi;by_cases a:i<S.length
 .rw[Ji a];simp[KX,Jt a]
 .have:i=S.length:=Dz;subst this;rw[Jj (N0 _)];simp[KX]
theorem at_mem:∀i,i<S.length+1->(if i=S.length then⟨lz 0 [SV.int .i64 l.x,.int .i64 l.y,.int .u8 l.q,.int .i64 h.x,.int .i64 h.y,.int .u8 h.q,.con (.slice none 0 0),.con (.slice none 0 0),.con (.slice none 0 0)],List.map (λ_=>(0,λ_=>[])) [(262,2),(138,3),(3,1)]⟩else KU (S.getD i BM):Mem).le (KU ((S++[sN l h]).getD i BM)):=by
 intro i a;by_cases b:i=S.length
 .subst b;rw[Ji rfl];have:(S++[sN l h]).getD S.length BM=sN l h:=by simp[]
  rw[this];exact⟨rfl,rfl,λ_ a=>absurd a (K5 _),rfl,λ_ a=>absurd a (K5 _),rfl,λ_ a=>absurd a (K5 _),Jm⟩
 .rw[Jj b];have:(S++[sN l h]).getD i BM=S.getD i BM:=by simp[Jt (show i<S.length from Dz)]
  rw[this];exact VK _
end
def clSV(c:Cl):SV:=.agg [.int .i64 c.x,.int .i64 c.y,.int .u8 c.q]
def hBAt:HK:=λg own=>match g with
 | [.own 0 0,.agg [.int .i64 a,.int .i64 b,.int .u8 c],.agg [.int .i64 d,.int .i64 e,.int .u8 f]]=>(asBd own).map λq=>⟨q.1/\(AD .u8 c/\AD .u8 f)/\q.2.2.length<=1000000,.fp true 4 (EC (EK q.2.2 ⟨a,b,c⟩ ⟨d,e,f⟩) (KO ⟨a,b,c⟩ ⟨d,e,f⟩)) 0,Tx q.2.1 (EK q.2.2 ⟨a,b,c⟩ ⟨d,e,f⟩),[3,4]⟩
 |_=>none
def FBAt:FamH:=⟨(Bd×List Sm)×Cl×Cl,λ(_,x,y)=>[.own 0 0,clSV x,clSV y],λ((b,S),_,_)=>Tx b S,λ((b,S),x,y)=>(b.p.l.length<=100000)/\(AD .u8 x.q/\AD .u8 y.q)/\S.length<=1000000,λ((_,S),x,y)=>.fp true 4 (EC (EK S x y) (KO x y)) 0,λ((b,S),x,y)=>Tx b (EK S x y),[3,4]⟩
theorem pBAt:HS 155 hBAt:=by
 refine JO {l:=[(69,Sx)]} ⟨Hp,E2,E2⟩ FBAt (λ_ _=>none) hBAt ?_ ?_ ?_ Tryz.func155 E1 E1 E1 ?_
 .intro args own r h g;unfold hBAt at h;split at h
  .rename_i a b c d e f;simp only[Jq]at h;obtain⟨⟨q,n,S⟩,hx,rfl⟩:=h;obtain⟨o,s,t⟩:=d3n hx g.1;exact⟨((n,S),⟨a,b,c⟩,⟨d,e,f⟩),⟨Ea,by simp[clSV,SV.le2,SV.le1,BH,SV.le0],by simp[clSV,SV.le2,SV.le1,BH,SV.le0],Jm⟩,o,s,⟨t,g.2⟩,rfl,rfl,rfl⟩
  .cases h
 .exact C1
 .intro i;show 5<=5;decide
 .rintro⟨⟨b,S⟩,x,y⟩ μ g;replace g:(b.p.l.length<=100000)/\(AD .u8 x.q/\AD .u8 y.q)/\S.length<=1000000:=g;have cT:decide (0<GM x.x x.y x.q y.x y.y y.q)=true->KO x y=[y.x,y.y,y.q,x.x,x.y,x.q]/\(EE S [y.x,y.y,y.q,x.x,x.y,x.q]=false->EK S x y=S++[sN y x])/\(EE S [y.x,y.y,y.q,x.x,x.y,x.q]=true->EK S x y=S):=by
   intro k;have g8:=L0 k;have e:KO x y=[y.x,y.y,y.q,x.x,x.y,x.q]:=by simp[KO,CZ,PK,Oz,g8]
   exact Dq
  have u:decide (0<GM x.x x.y x.q y.x y.y y.q)=false->KO x y=[x.x,x.y,x.q,y.x,y.y,y.q]/\(EE S [x.x,x.y,x.q,y.x,y.y,y.q]=false->EK S x y=S++[sN x y])/\(EE S [x.x,x.y,x.q,y.x,y.y,y.q]=true->EK S x y=S):=by
   intro k;have g8:=Ni k;have e:KO x y=[x.x,x.y,x.q,y.x,y.y,y.q]:=by simp[KO,CZ,PK,Oz,g8]
   exact Dq
  refine X0a _ ?_;(repeat' first|constructor|intro h)<;>refine Lm ?_
  all_goals(first
   |exact g.2.1
   |exact B3
   |exact⟨Dz,MQ E1 Dz⟩
   |(obtain⟨e1,m,j⟩:=cT E5
     first
      |(have hk:EE S [y.x,y.y,y.q,x.x,x.y,x.q]=false:=by simpa using h
        first
         |exact d4c
         |(rw[m hk]
           first
            |exact Bf))
      |(have hk:EE S [y.x,y.y,y.q,x.x,x.y,x.q]=true:=by simpa using h
        first
         |exact hk
         |exact Mj List.length (j hk).symm
         |(rw[j hk]
           first
            |exact Bp
            |exact B3
            |rfl
            |exact Bc
            |(rw[e1];exact λ_=>rfl))))
   |(obtain⟨e1,m,j⟩:=u E5
     first
      |(have hk:EE S [x.x,x.y,x.q,y.x,y.y,y.q]=false:=by simpa using h
        first
         |exact d4c
         |(rw[m hk]
           first
            |exact Bf))
      |(have hk:EE S [x.x,x.y,x.q,y.x,y.y,y.q]=true:=by simpa using h
        first
         |exact hk
         |exact Mj List.length (j hk).symm
         |(rw[j hk]
           first
            |exact Bp
            |exact B3
            |rfl
            |exact Bc
            |(rw[e1];exact λ_=>rfl))))
   |skip)
def sX(Q:Int):Int:=tb [0,1,0,-1] Q.toNat
def sY(Q:Int):Int:=tb [-1,0,1,0] Q.toNat
def dX(t Q:Int):Int:=OZ t 0 0 (sX Q) (sY Q)
def dY(t Q:Int):Int:=OQ t 0 0 (sX Q) (sY Q)
def NQ(t Q:Int)(i:Nat):Bool:=and (decide (tb [0,1,0,-1] i=dX t Q)) (and (decide (tb [-1,0,1,0] i=dY t Q)) true)
def SO(t Q:Int):Nat->Int
 |0=>0
 |i+1=>bif NQ t Q i then i else SO t Q i
def LJ(t Q:Int):Int:=SO t Q 4
def RS(p:Int):Int:=(p-p%2).tdiv 2
def MB(t x y X Y:Int):Int:=RS (OZ t x y (2*X+1) (2*Y+1))
def MV(t x y X Y:Int):Int:=RS (OQ t x y (2*X+1) (2*Y+1))
theorem po_le{t x y a b:Int}(c:0<=t)(h:Do t x y=0)(a1: -9000<=a)(a2:a<=9000)(b1: -9000<=b)(b2:b<=9000): -60000<=OZ t x y a b/\OZ t x y a b<=60000/\ -60000<=OQ t x y a b/\OQ t x y a b<=60000:=by have m:=Sv h;have r:=c66 (t:=t) (x:=a) (y:=b) (B:=9000) c m.1 Dz Dz Dz Dz;unfold OZ OQ keep;split<;>omega
theorem d8a{p:Int}(h1: -60000<=p)(h2:p<=60000): -60000<=RS p/\RS p<=60000:=by unfold RS;have:=Int.tdiv_eq_ediv (a:=p-p%2) (b:=2);rw[this];split<;>omega
def c62:SV:=.agg (Xi 0++Xi 1++Xi 2++Xi 3)
def IMoved:Int×Int×Int×Int×Int×Int->Nat->Option Inv
 |(t,x,y,X,Y,Q),7=>some {β:=Nat,ok:=λi=>i<=4,st:=λi=>⟨[⟨47,none,.int .i64 i⟩,⟨46,none,c62⟩,⟨7,none,.own 5 0⟩,⟨6,none,.own 4 0⟩,⟨4,none,.own 2 0⟩],[.cells 36 [.int .u8 t,.int .i64 0,.int .i64 0],.cells 103 [.int .i64 X,.int .i64 Y,.int .u8 Q],.cells 103 [.int .i64 0,.int .i64 0,.int .u8 0],.cells 182 [.int .i64 (OZ t x y (2*X+1) (2*Y+1)),.int .i64 (OQ t x y (2*X+1) (2*Y+1))],.cells 182 [.int .i64 (dX t Q),.int .i64 (dY t Q)],.cells 103 [.int .i64 (MB t x y X Y),.int .i64 (MV t x y X Y),.int .u8 (SO t Q i)]]⟩,μ:=λi=>4-i}
 |_,_=>none
def c9h:AH
 | [.agg [.int .u8 t,.int .i64 x,.int .i64 y],.agg [.int .i64 X,.int .i64 Y,.int .u8 Q]]=>some (Do t x y=0/\BG X Y Q=0/\0<=t/\0<=Q,.agg [.int .i64 (MB t x y X Y),.int .i64 (MV t x y X Y),.int .u8 (LJ t Q)])
 |_=>none
def f7m:Fam:=⟨Int×Int×Int×Int×Int×Int,λ(t,x,y,X,Y,Q)=>[.agg [.int .u8 t,.int .i64 x,.int .i64 y],.agg [.int .i64 X,.int .i64 Y,.int .u8 Q]],λ(t,x,y,X,Y,Q)=>Do t x y=0/\BG X Y Q=0/\0<=t/\0<=Q,λ(t,x,y,X,Y,Q)=>.agg [.int .i64 (MB t x y X Y),.int .i64 (MV t x y X Y),.int .u8 (LJ t Q)]⟩
theorem pMoved:PS 124 c9h:=by
 refine con [(171,c1r),(172,b51)] (by simpa using⟨g3u,f2t⟩) f7m IMoved c9h ?_ ?_ Tryz.func124 E1 E1 E1 ?_
 .intro args pre s h d;unfold c9h at h;split at h
  .rename_i t x y X Y Q;cases h;exact⟨(t,x,y,X,Y,Q),by simp[f7m,BK,SV.le2,SV.le1,BH,SV.le0],d,rfl⟩
  .cases h
 .exact Bz
 .rintro⟨t,x,y,X,Y,Q⟩ d;replace d:Do t x y=0/\BG X Y Q=0/\0<=t/\0<=Q:=d;refine X0a _ ?_;(repeat' first|constructor|intro h)<;>refine Lm ?_
  all_goals(have m:=Sv d.1;have c:=Sp d.2.1;have r:=po_le d.2.2.1 d.1 (a:=2*X+1) (b:=2*Y+1) Dz Dz Dz Dz)
  all_goals(first
   |exact Ap
   |(have q:=d8a r.1 r.2.1;simp only[RS]at q;simp only[AD];omega)
   |(have q:=d8a r.2.2.1 r.2.2.2;simp only[RS]at q;simp only[AD];omega)
   |refine⟨(0:Nat),E4,?_,?_⟩)
  .exact X0d
  .intro i f;replace f:i<=4:=f;have:i=0\/i=1\/i=2\/i=3\/i=4:=Dz;rcases this with rfl|rfl|rfl|rfl|rfl;all_goals refine X0a _ ?_;(repeat' first|constructor|intro h)<;>refine Lm ?_
   all_goals(first
    |decide
    |rfl
    |exact A6
    |(refine⟨(1:Nat),E4,E4,?_⟩;(first|(have h:NQ t Q 0=true:=h)|(have h:NQ t Q 0=false:=h)))
    |(refine⟨(2:Nat),E4,E4,?_⟩;(first|(have h:NQ t Q 1=true:=h)|(have h:NQ t Q 1=false:=h)))
    |(refine⟨(3:Nat),E4,E4,?_⟩;(first|(have h:NQ t Q 2=true:=h)|(have h:NQ t Q 2=false:=h)))
    |(refine⟨(4:Nat),E4,E4,?_⟩;(first|(have h:NQ t Q 3=true:=h)|(have h:NQ t Q 3=false:=h))))
   all_goals refine X0a _ ?_;(repeat' first|constructor|intro h)<;>refine Lm ?_
   all_goals first|exact Az|(simp only[SO,h,N9,cond_false];done)|(simp only[SO];rw[h];rfl)|skip
theorem d47(t Q:Int):∀n:Nat,0<=SO t Q n/\SO t Q n<=n
 |0=>⟨Ms _,Ms _⟩
 |n+1=>by have:=d47 t Q n;simp only[SO];cases NQ t Q n<;>simp<;>omega
def HM(t x y X Y Q:Int):Int:=if Do t x y=0/\BG X Y Q=0 then(if BG (MB t x y X Y) (MV t x y X Y) (LJ t Q)=0 then 0 else 3)else 1
def WQ:AH
 | [.agg [.int .u8 t,.int .i64 x,.int .i64 y],.agg [.int .i64 X,.int .i64 Y,.int .u8 Q]]=>some (0<=t/\t<=255/\0<=Q,.tup [.agg [.int .i64 (keep (HM t x y X Y Q) (MB t x y X Y)),.int .i64 (keep (HM t x y X Y Q) (MV t x y X Y)),.int .u8 (keep (HM t x y X Y Q) (LJ t Q))],.int .i64 (HM t x y X Y Q)])
 |_=>none
def c27:Fam:=⟨Int×Int×Int×Int×Int×Int,λ(t,x,y,X,Y,Q)=>[.agg [.int .u8 t,.int .i64 x,.int .i64 y],.agg [.int .i64 X,.int .i64 Y,.int .u8 Q]],λ(t,_,_,_,_,Q)=>0<=t/\t<=255/\0<=Q,λ(t,x,y,X,Y,Q)=>.tup [.agg [.int .i64 (keep (HM t x y X Y Q) (MB t x y X Y)),.int .i64 (keep (HM t x y X Y Q) (MV t x y X Y)),.int .u8 (keep (HM t x y X Y Q) (LJ t Q))],.int .i64 (HM t x y X Y Q)]⟩
theorem b5n:PS 66 WQ:=by
 refine con [(62,RM),(65,Pf),(124,c9h)] (by simpa using⟨VE,Vu,pMoved⟩) c27 (λ_ _=>none) WQ ?_ ?_ Tryz.func66 E1 E1 E1 ?_
 .intro args pre s h a;unfold WQ at h;split at h
  .rename_i t x y X Y Q;cases h;exact⟨(t,x,y,X,Y,Q),by simp[c27,BK,SV.le2,SV.le1,BH,SV.le0],a,rfl⟩
  .cases h
 .exact Bz
 .rintro⟨t,x,y,X,Y,Q⟩ a;replace a:0<=t/\t<=255/\0<=Q:=a;refine X0a _ ?_;(repeat' first|constructor|intro h)<;>refine Lm ?_
  all_goals(first|grind|grind[HM,keep])
def CM(W H:Int):Int:=if AV W H=0 then 4*W*H else 0
def Wb:AH
 | [.agg [.int .i64 W,.int .i64 H]]=>some (True,.int .i64 (CM W H))
 |_=>none
def f7i:Fam:=⟨Int×Int,λ(W,H)=>[.agg [.int .i64 W,.int .i64 H]],λ(_,_)=>True,λ(W,H)=>.int .i64 (CM W H)⟩
theorem c8c:PS 108 Wb:=by
 refine con [(86,Qi)] (by simpa using TE) f7i (λ_ _=>none) Wb ?_ ?_ Tryz.func108 E1 E1 E1 ?_
 .intro args pre s h a;unfold Wb at h;split at h
  .rename_i W H;cases h;exact⟨(W,H),by simp[f7i,BK,SV.le2,SV.le1,BH,SV.le0],a,rfl⟩
  .cases h
 .exact C0
 .rintro⟨W,H⟩ a;replace a:True:=a;refine X0a _ ?_;(repeat' first|constructor|intro h)<;>refine Lm ?_
  all_goals(have z:=@OB W H)
  all_goals(try simp only[AD])
  all_goals grind[CM]
def QR(W H i e:Int):Int:=if AV W H=0 then(if AR W H i e=0/\EI W H i e=i/\FI W H i e=e then 0 else 7)else 1
def OA(W H i e v:Int):Int:=if QR W H i e=0 then v else 0
theorem b3u{W H i e:Int}(h:AR W H i e=0):IL W H i=0:=by
 unfold AR at h;split at h
 .assumption
 .exact h
theorem b8y{W H i:Int}(h:IL W H i=0):AV W H=0/\0<=i/\i<4*(W*H):=by
 unfold IL at h;split at h
 .rename_i a;have z:=OB a;split at h
  .rename_i b;simp[Qy]at b;exact⟨a,b.1,Dz⟩
  .cases h
 .cases h
def c7k:AH
 | [.agg [.int .i64 W,.int .i64 H],.agg [.int .i64 i,.int .u8 e]]=>some (0<=e,.tup [.agg [.int .i64 (OA W H i e (i/4%W)),.int .i64 (OA W H i e (i/4/W)),.int .u8 (OA W H i e (i%4))],.int .i64 (QR W H i e)])
 |_=>none
def f6r:Fam:=⟨Int×Int×Int×Int,λ(W,H,i,e)=>[.agg [.int .i64 W,.int .i64 H],.agg [.int .i64 i,.int .u8 e]],λ(_,_,_,e)=>0<=e,λ(W,H,i,e)=>.tup [.agg [.int .i64 (OA W H i e (i/4%W)),.int .i64 (OA W H i e (i/4/W)),.int .u8 (OA W H i e (i%4))],.int .i64 (QR W H i e)]⟩
theorem pNamed:PS 236 c7k:=by
 refine con [(86,Qi),(134,UC),(137,d6y)] (by simpa using⟨TE,f1s,pCell⟩) f6r (λ_ _=>none) c7k ?_ ?_ Tryz.func236 E1 E1 E1 ?_
 .intro args pre s h a;unfold c7k at h;split at h
  .rename_i W H i e;cases h;exact⟨(W,H,i,e),by simp[f6r,BK,SV.le2,SV.le1,BH,SV.le0],a,rfl⟩
  .cases h
 .exact Bz
 .rintro⟨W,H,i,e⟩ a;replace a:0<=e:=a;refine X0a _ ?_;(repeat' first|constructor|intro h)<;>refine Lm ?_
  all_goals(have z:=@OB W H;have z2:=@b3u W H i e;have z3:=@b8y W H i;have z4:=b4t W H)
  all_goals(first|grind|grind[QR,OA])
theorem f8n{q:Cr->Bool}{l:List Cr}{i:Nat}(hi:i<l.length)(h:q (l.getD i d0)=true):l.any q=true:=by refine K1.2 ⟨l[i],Kj hi,?_⟩;simpa[Jg,hi]using h
theorem f0m{q:Cr->Bool}{l:List Cr}(h:∀j,j<l.length->q (l.getD j d0)=false):l.any q=false:=by rw[K2];intro x hx;obtain⟨j,a,rfl⟩:=Kg.1 hx;have:=h j a;simpa[Jg,a]using this
theorem d2u{q:Cr->Bool}{l:List Cr}{i:Nat}(hi:i<l.length)(h:l.any q=false):q (l.getD i d0)=false:=by rw[K2]at h;have:=h l[i] (Kj hi);simpa[Jg,hi]using this
theorem b50{l:List Cr}{i:Nat}(hi:i<l.length):l.getD i d0∈l:=by simp[hi]
theorem b1j{W H i e:Int}(h:AV W H=0)(b:AR W H i e=0):0<=i/\i<1024:=by
 have a:IL W H i=0:=by
  unfold AR at b;split at b
  .assumption
  .exact b
 unfold IL at a;rw[Ji h]at a;split at a
 .rename_i c;obtain⟨h1,h2,h3,h4,h5,h6,h7⟩:=OB h;simp[Qy]at c;omega
 .cases a
def Pk(p:Pt)(x:Cr):Bool:= !decide (AR p.W p.H x.c x.e=0)|| !(decide (EI p.W p.H x.c x.e=x.c)&&(decide (FI p.W p.H x.c x.e=x.e)&&true))
def PZ(p:Pt)(i:Nat):Bool:=decide (0<=IW (p.l.getD i d0).c (p.l.getD i d0).e (p.l.getD (i+1) d0).c (p.l.getD (i+1) d0).e)
def BN(p:Pt):Int:=if AV p.W p.H=0 then(if p.l.any OH then 1 else if p.l.any (Pk p)then 7 else if(List.range (p.l.length-1)).any (PZ p)then 6 else 0)else 1
def b6n:AH
 | [x]=>match Pl x with
   |some (a,p)=>some (a/\∀c∈p.l,AD .u8 c.e,.int .i64 (BN p))
   |none=>none
 |_=>none
def g0e:Fam:=⟨Pt,λp=>[KC p],λp=>p.l.length<=100000/\∀c∈p.l,AD .u8 c.e,λp=>.int .i64 (BN p)⟩
def g0p(p:Pt):Nat->Option Inv
 |7=>some {β:=Nat,ok:=λi=>i<=p.l.length/\AV p.W p.H=0/\p.l.any OH=false/\∀j,j<i->Pk p (p.l.getD j d0)=false,st:=λi=>⟨[⟨21,none,.int .i64 i⟩,⟨20,none,.int .i64 p.l.length⟩,⟨19,none,.sl 3 p.l.length (Eo p.l) none⟩,⟨1,none,.own 0 0⟩],[.cells 34 [.int .i64 p.W,.int .i64 p.H,.sl 3 p.l.length (Eo p.l) none]]⟩,μ:=λi=>p.l.length-i}
 |14=>some {β:=Nat,ok:=λi=>1<=i/\(i=1\/i<=p.l.length)/\AV p.W p.H=0/\p.l.any OH=false/\p.l.any (Pk p)=false/\∀j,j+1<i->PZ p j=false,st:=λi=>⟨[⟨8,none,.int .i64 i⟩,⟨1,none,.own 0 0⟩],[.cells 34 [.int .i64 p.W,.int .i64 p.H,.sl 3 p.l.length (Eo p.l) none]]⟩,μ:=λi=>p.l.length+1-i}
 |_=>none
theorem d5a:PS 129 b6n:=by
 refine con [(86,Qi),(182,b34),(134,UC),(185,d8i),(186,YC)] (by simpa using⟨TE,d4i,f1s,pUnit,f63⟩) g0e (λp=>g0p p) b6n ?_ ?_ Tryz.func129 E1 E1 E1 ?_
 .intro args pre s h hp;unfold b6n at h;split at h
  .split at h
   .rename_i a p hx;cases h;exact D5
   .cases h
  .cases h
 .exact C0
 .rintro(p:Pt) hp;replace hp:p.l.length<=100000/\∀c∈p.l,AD .u8 c.e:=hp;refine X0a _ ?_;(repeat' first|constructor|intro h)<;>refine Lm ?_
  .simp at h;rw[BN,Jj h];exact(b4t p.W p.H).resolve_left h
  .exact⟨FT _,hp.1⟩
  .rename_i n;simp at n;rw[CE]at h;rw[BN,Ji n,Ji h]
  .rename_i n;simp at n;rw[CE]at h;refine⟨(0:Nat),⟨Dz,n,h,λj hj=>Dz⟩,?_,?_⟩
   .exact X0d
   .rintro i ⟨dj,b,g,r⟩;refine X0a _ ?_;(repeat' first|constructor|intro h)<;>refine Lm ?_
    .simp at h;omega
    .simp at h;have:=hp.2 _ (b50 (i:=i) h);simp only[AD]at this;exact this.1
    .rename_i d;simp at d;have e:Pk p (p.l.getD i d0)=true:=h;rw[BN,Ji b,Jj (by simp[g]),Ji (f8n d e)]
    .simp only[AD];omega
    .rename_i d;simp at d;refine⟨i+1,⟨Dz,b,g,λj hj=> ?_⟩,Dz,?_⟩
     .by_cases e:j=i
      .subst e;exact h
      .exact r j Dz
     .exact X1
    .simp at h;have m:p.l.any (Pk p)=false:=f0m (λj hj=>r j Dz);refine⟨(1:Nat),⟨Dz,.inl rfl,b,g,m,λj hj=>Dz⟩,?_,?_⟩
     .exact X0d
     .rintro k ⟨k1,k2,-,-,-,k3⟩;refine X0a _ ?_;(repeat' first|constructor|intro h)<;>refine Lm ?_
      all_goals(try(simp only[AD];omega))
      all_goals(try(simp at h;omega))
      .simp at h;have o:((k:Int)-1).toNat=k-1:=Dz;rw[o,K0];have t:=d2u (i:=k-1) Dz m;have u:=d2u (i:=k) Dz m;simp only[Pk,M6,Bool.not_eq_false',Ju]at t u;have c1:=b1j b t.1;have c2:=b1j b u.1;refine⟨F0,hp.2 _ (b50 Dz),hp.2 _ (b50 Dz)⟩
      all_goals(have o:((k:Int)-1).toNat=k-1:=Dz)
      all_goals(have v:k-1+1=k:=Dz)
      .rename_i d;simp at d;simp only[o,K0]at h;have q:PZ p (k-1)=true:=by simp only[PZ,v];exact h
       have:(List.range (p.l.length-1)).any (PZ p)=true:=K1.2 ⟨k-1,Kk.2 Dz,q⟩;rw[BN,Ji b,Jj (by simp[g]),Jj (by simp[m]),Ji this]
      .rename_i d;simp at d;simp only[o,K0]at h;have q:PZ p (k-1)=false:=by simp only[PZ,v];exact h
       refine⟨k+1,⟨Dz,Dz,b,g,m,λj hj=> ?_⟩,Dz,?_⟩
       .by_cases e:j=k-1
        .subst e;exact q
        .exact k3 j Dz
       .exact X1
      .simp at h;have:(List.range (p.l.length-1)).any (PZ p)=false:=by
        rw[K2];intro j hj;have:=k3 j Hq;simp[this]
       rw[BN,Ji b,Jj (by simp[g]),Jj (by simp[m]),Jj (by simp[this])]
def Uv(W H i e:Int):Int:=if QR W H i e=0 then QE (OA W H i e (i/4%W)) (OA W H i e (i/4/W)) (OA W H i e (i%4)) e else QR W H i e
def VB(W H i e:Int):Int:=if QR W H i e=0 then keep (Uv W H i e) (DH (i%4) e)else 0
def Vm(W H i e:Int):Int:=if QR W H i e=0 then keep (Uv W H i e) (DK (i/4%W) (i/4/W) (i%4) e)else 0
def b1u:AH
 | [.agg [.int .i64 W,.int .i64 H],.agg [.int .i64 i,.int .u8 e]]=>some (0<=e,.tup [.agg [.int .u8 (VB W H i e),.int .i64 (Vm W H i e)],.int .i64 (Uv W H i e)])
 |_=>none
def b8d:Fam:=⟨Int×Int×Int×Int,λ(W,H,i,e)=>[.agg [.int .i64 W,.int .i64 H],.agg [.int .i64 i,.int .u8 e]],λ(_,_,_,e)=>0<=e,λ(W,H,i,e)=>.tup [.agg [.int .u8 (VB W H i e),.int .i64 (Vm W H i e)],.int .i64 (Uv W H i e)]⟩
theorem d2r:PS 189 b1u:=by
 refine con [(236,c7k),(34,Yb)] (by simpa using⟨pNamed,c2m⟩) b8d (λ_ _=>none) b1u ?_ ?_ Tryz.func189 E1 E1 E1 ?_
 .intro args pre s h a;unfold b1u at h;split at h
  .rename_i W H i e;cases h;exact⟨(W,H,i,e),by simp[b8d,BK,SV.le2,SV.le1,BH,SV.le0],a,rfl⟩
  .cases h
 .exact Bz
 .rintro⟨W,H,i,e⟩ a;replace a:0<=e:=a;refine X0a _ ?_;(repeat' first|constructor|intro h)<;>refine Lm ?_
  all_goals(have z:0<=OA W H i e (i%4):=by(unfold OA;split<;>omega))
  all_goals(first|grind|grind[Uv,VB,Vm,OA,keep])
def d0e:AH
 | [.agg [.int .i64 a,.int .u8 b,.int .u8 _],.agg [.int .i64 c,.int .u8 d]]=>some (AD .i64 (a-c)/\AD .u8 b/\AD .u8 d,.int .i64 (IW a b c d))
 |_=>none
def f5r:Fam:=⟨Int×Int×Int×Int×Int,λ(a,b,k,c,d)=>[.agg [.int .i64 a,.int .u8 b,.int .u8 k],.agg [.int .i64 c,.int .u8 d]],λ(a,b,_,c,d)=>AD .i64 (a-c)/\AD .u8 b/\AD .u8 d,λ(a,b,_,c,d)=>.int .i64 (IW a b c d)⟩
theorem pFind1:PS 199 d0e:=by
 refine con [(185,d8i),(186,YC)] (by simpa using⟨pUnit,f63⟩) f5r (λ_ _=>none) d0e ?_ ?_ Tryz.func199 E1 E1 E1 ?_
 .intro args pre s h e;unfold d0e at h;split at h
  .rename_i a b k c d;cases h;exact⟨(a,b,k,c,d),by simp[f5r,BK,SV.le2,SV.le1,BH,SV.le0],e,rfl⟩
  .cases h
 .exact Bz
 .rintro⟨a,b,k,c,d⟩ e;replace e:AD .i64 (a-c)/\AD .u8 b/\AD .u8 d:=e;refine X0a _ ?_;(repeat' first|constructor|intro h)<;>refine Lm ?_
  all_goals(first|exact e|rfl)
def KH(x:Cr)(a b:Int):Int:=IW x.c x.e a b
def JH(l:List Cr)(a b:Int):Nat:=(l.takeWhile λx=>decide (KH x a b<0)).length
def ME(l:List Cr)(a b:Int):Bool:=and (decide ((JH l a b:Int)<l.length)) (decide (KH (l.getD (JH l a b) d0) a b=0))
theorem c9y{a b:Int}:∀(l:List Cr) (i:Nat),i<=l.length->(∀k,k<i->KH (l.getD k d0) a b<0)->(i<l.length->0<=KH (l.getD i d0) a b)->JH l a b=i
 | [],i,h,_,_=>by simp at h;simp[JH,h]
 |x::l,0,_,_,h=>by have:=h E2;simp at this;have:¬KH x a b<0:=Dz;simp[JH,this]
 |x::l,i+1,h,c,f=>by have:=c 0 Dz;simp at this;have d:=c9y l i E6 (λk e=>by simpa using c (k+1) Dz) (λe=>by simpa using f (by simpa using e));simp only[JH]at d⊢;simp[this,d]
def Td(l:List Cr):Prop:=∀i j,i<j->j<l.length->IW (l.getD i d0).c (l.getD i d0).e (l.getD j d0).c (l.getD j d0).e<0
def Tt(l:List Cr):Prop:=∀x∈l,0<=x.c/\x.c<=2000/\AD .u8 x.e
def kBs:AH
 | [x,.agg [.int .i64 a,.int .u8 b],.clo g []]=>if g=199 then match Po x with
   |some (n,f)=>some ((MI n f/\n<=100000)/\Td (FX n f)/\Tt (FX n f)/\0<=a/\a<=2000/\AD .u8 b,.tup [.int .i64 (JH (FX n f) a b),.bool (ME (FX n f) a b)])
   |none=>none
   else none
 |_=>none
def FBs:Fam:=⟨List Cr×Int×Int,λ(l,a,b)=>[.sl 3 l.length (Eo l) none,.agg [.int .i64 a,.int .u8 b],.clo 199 []],λ(l,a,b)=>l.length<=100000/\Td l/\Tt l/\0<=a/\a<=2000/\AD .u8 b,λ(l,a,b)=>.tup [.int .i64 (JH l a b),.bool (ME l a b)]⟩
def IBs:List Cr×Int×Int->Nat->Option Inv
 |(l,a,b),3=>some {β:=Nat×Nat,ok:=λ(i,j)=>i<=j/\j<=l.length/\(∀k,k<i->KH (l.getD k d0) a b<0)/\∀k,j<=k->k<l.length->0<=KH (l.getD k d0) a b,st:=λ(i,j)=>⟨[⟨10,none,.int .i64 j⟩,⟨9,none,.int .i64 i⟩,⟨8,none,.int .i64 l.length⟩,⟨7,none,.bool false⟩,⟨6,none,.int .i64 0⟩,⟨4,none,.own 0 0⟩,⟨2,none,.clo 199 []⟩,⟨0,none,.sl 3 l.length (Eo l) none⟩],[.cells 71 [.int .i64 a,.int .u8 b]]⟩,μ:=λ(i,j)=>j-i}
 |_,_=>none
theorem pBs:PS 198 kBs:=by
 refine con [(199,d0e)] (by simpa using pFind1) FBs IBs kBs ?_ ?_ Tryz.func198 E1 E1 E1 ?_
 .intro args pre s h d;unfold kBs at h;split at h
  .split at h
   .rename_i z;subst z;split at h
    .rename_i n f hx;rename_i a b _;cases h;exact⟨(FX n f,a,b),⟨JL (TP hx d.1.1),Ee,⟨rfl,rfl⟩,Jm⟩,⟨by simp only[TY];exact d.1.2,d.2⟩,rfl⟩
    .cases h
   .cases h
  .cases h
 .exact C1
 .rintro⟨l,a,b⟩ d;replace d:l.length<=100000/\Td l/\Tt l/\0<=a/\a<=2000/\AD .u8 b:=d;refine X0a _ ?_;(repeat' first|constructor|intro h)<;>refine Lm ?_
  refine⟨((0:Nat),l.length),⟨Dz,Dz,λk m=>Dz,λk v o=>Dz⟩,?_,?_⟩
  .exact X0d
  .rintro⟨i,j⟩ ⟨v,o,r,t⟩;replace v:i<=j:=v;replace o:j<=l.length:=o;replace r:∀k,k<i->KH (l.getD k d0) a b<0:=r;replace t:∀k,j<=k->k<l.length->0<=KH (l.getD k d0) a b:=t;have g:((i:Int)+j)/2^Int.toNat 1=(((i+j)/2:Nat):Int):=by
    have:(2:Int)^Int.toNat 1=2:=rfl;rw[this];omega
   have w:∀k,k<l.length->AD .i64 ((l.getD k d0).c-a)/\AD .u8 (l.getD k d0).e/\AD .u8 b:=λk m=>by have q:=d.2.2.1 _ (b50 m);exact⟨F0,q.2.2,d.2.2.2.2.2⟩
   refine X0a _ ?_;(repeat' first|constructor|intro h)<;>refine Lm ?_
   all_goals(first
    |(have x:i<j:=by simpa using(by assumption:decide ((i:Int)<(j:Int))=true)
      first
      |exact A6
      |decide
      |(rw[g];simp only[AD];omega)
      |(rw[g];omega)
      |(rw[g,K0];exact w _ Dz)
      |(rw[g,K0]at h
        have h:KH (l.getD ((i+j)/2) d0) a b<0:=L0 h;refine⟨((i+j)/2+1,j),⟨G7,o,λk m=> ?_,t⟩,by show j-((i+j)/2+1)<j-i;omega,?_⟩
        .replace m:k<(i+j)/2+1:=m;by_cases e:k=(i+j)/2
         .rw[e];exact h
         .have q:=d.2.1 k ((i+j)/2) Dz Dz;unfold KH at h⊢;unfold IW at h q⊢;grind)
      |(rw[g,K0]at h
        have h:0<=KH (l.getD ((i+j)/2) d0) a b:=Int.not_lt.1 (Ni h);refine⟨(i,(i+j)/2),⟨G8,by show (i+j)/2<=l.length;omega,r,λk k1 k2=> ?_⟩,by show (i+j)/2-i<j-i;omega,?_⟩
        .replace k1:(i+j)/2<=k:=k1;by_cases e:k=(i+j)/2
         .rw[e];exact h
         .have q:=d.2.1 ((i+j)/2) k Dz Dz;unfold KH at h⊢;unfold IW at h q⊢;grind))
    |(have x:i=j:=by(have:¬((i:Int)<(j:Int)):=by simpa using(by assumption:decide ((i:Int)<(j:Int))=false));omega
      subst x;have y:=c9y l i o r (λk=>t i (Jp _) k);first
      |(intro q;(have q:i<l.length:=by simpa using q);omega)
      |(intro q;(have q:i<l.length:=by simpa using q);exact w i q)
      |(rw[y])
      |(unfold ME;rw[y];rfl))
    |skip)
   all_goals refine X0a _ ?_;(repeat' first|constructor|intro h)<;>refine Lm ?_
   all_goals first|exact A8|(rw[g];rfl)|(rw[g];omega)|skip
def f0h:AH
 | [x,.agg [.int .i64 a,.int .u8 b]]=>match Po x with
   |some (n,f)=>some ((MI n f/\n<=100000)/\Td (FX n f)/\Tt (FX n f)/\0<=a/\a<=2000/\AD .u8 b,.tup [.int .i64 (JH (FX n f) a b),.bool (ME (FX n f) a b)])
   |none=>none
 |_=>none
def FFind:Fam:=⟨List Cr×Int×Int,λ(l,a,b)=>[.sl 3 l.length (Eo l) none,.agg [.int .i64 a,.int .u8 b]],λ(l,a,b)=>l.length<=100000/\Td l/\Tt l/\0<=a/\a<=2000/\AD .u8 b,λ(l,a,b)=>.tup [.int .i64 (JH l a b),.bool (ME l a b)]⟩
theorem pFind:PS 135 f0h:=by
 refine con [(198,kBs)] (by simpa using pBs) FFind (λ_ _=>none) f0h ?_ ?_ Tryz.func135 E1 E1 E1 ?_
 .intro args pre s h c;unfold f0h at h;split at h
  .split at h
   .rename_i n f hx;rename_i a b _;cases h;exact⟨(FX n f,a,b),⟨JL (TP hx c.1.1),Ee,Jm⟩,⟨by simp only[TY];exact c.1.2,c.2⟩,rfl⟩
   .cases h
  .cases h
 .exact Bz
 .rintro⟨l,a,b⟩ c;replace c:l.length<=100000/\Td l/\Tt l/\0<=a/\a<=2000/\AD .u8 b:=c;refine X0a _ ?_;(repeat' first|constructor|intro h)<;>refine Lm ?_
  all_goals(try rw[CE])
  all_goals(first|rfl|exact⟨⟨FT _,c.1⟩,c.2⟩|skip)
theorem FN{p:Pt}(h:BN p=0):AV p.W p.H=0/\p.l.any OH=false/\p.l.any (Pk p)=false/\(List.range (p.l.length-1)).any (PZ p)=false:=by unfold BN at h;grind
theorem d2g{a b c d e f:Int}(h:IW a b c d<0)(k:IW c d e f<0):IW a b e f<0:=by unfold IW at*;grind
theorem WG{p:Pt}(h:BN p=0):Td p.l:=by
 obtain⟨_,_,_,a⟩:=FN h;rw[K2]at a;have step:∀i,i+1<p.l.length->IW (p.l.getD i d0).c (p.l.getD i d0).e (p.l.getD (i+1) d0).c (p.l.getD (i+1) d0).e<0:=λi hi=>by have:=a i (Kk.2 Dz);simp[PZ]at this;simpa using this
 intro i j fh;induction j with
 |zero=>omega
 |succ j d=>
  intro b;by_cases e:i=j
  .subst e;exact step i b
  .exact d2g (d Dz Dz) (step j b)
theorem f4a{p:Pt}(h:BN p=0)(b:∀c∈p.l,AD .u8 c.e):Tt p.l:=by obtain⟨d,_,a,_⟩:=FN h;intro x hx;rw[K2]at a;have:=a x hx;simp[Pk]at this;have q:=b1j d this.1;exact⟨q.1,Dz,b x hx⟩
theorem nm_le{W H i e:Int}(hs:AV W H=0)(h:AR W H i e=0):0<=EI W H i e/\EI W H i e<=2000:=by
 have q:=b1j hs h;have z:=b8y (b3u h);have v:0<=AE W H i e:=by
  unfold AE;split
  .split
   .unfold PP;split
    .rename_i b;have w:∀X Y Q:Int,LK W H X Y Q=0->0<=Q->0<=4*(Y*W+X)+Q:=λX Y Q h hQ=>by
      unfold LK at h;rw[Ji hs]at h;split at h
      .rename_i a;have:=g10 (X:=X) (Y:=Y) hs a.2.1 a.2.2.1 a.2.2.2.1 a.2.2.2.2;omega
      .cases h
     refine w _ _ _ b ?_;have q3:=(UU W H i).1;unfold HJ;split
     .unfold EY;have:∀l:List Int,(∀x∈l,0<=x)->∀n,0<=l.getD n 0:=λl c n=>by
       rw[Jg];cases hh:l[n]? with
       |none=>simp
       |some y=>exact c y (Jn hh)
      refine this _ (λx hx=> ?_) _;simp only[Jv,List.mem_nil_iff,or_false]at hx;rcases hx with rfl|rfl|rfl<;>exact this _ E4 _
     .omega
    .omega
   .omega
  .omega
 unfold EI;rw[Ji h];omega
def JG(p:Pt)(i e:Int):Int:=if BN p=0 then AR p.W p.H i e else BN p
def YN(p:Pt)(i e:Int):Int:=if JG p i e=0 then EI p.W p.H i e else 0
def atD(p:Pt)(i e:Int):Int:=if JG p i e=0 then FI p.W p.H i e else 0
def Qe(p:Pt)(i e:Int):Int:=if JG p i e=0 then(JH p.l (EI p.W p.H i e) (FI p.W p.H i e):Int)else 0
def MP(p:Pt)(i e:Int):Bool:=bif decide (JG p i e=0)then ME p.l (EI p.W p.H i e) (FI p.W p.H i e)else false
def kAt:AH
 | [x,.int .i64 i,.int .u8 e]=>match Pl x with
   |some (a,p)=>some (a/\(∀c∈p.l,AD .u8 c.e)/\0<=e/\e<=255,.tup [.agg [.int .i64 (YN p i e),.int .u8 (atD p i e)],.int .i64 (Qe p i e),.bool (MP p i e),.int .i64 (JG p i e)])
   |none=>none
 |_=>none
def FAt:Fam:=⟨Pt×Int×Int,λ(p,i,e)=>[KC p,.int .i64 i,.int .u8 e],λ(p,_,e)=>p.l.length<=100000/\(∀c∈p.l,AD .u8 c.e)/\0<=e/\e<=255,λ(p,i,e)=>.tup [.agg [.int .i64 (YN p i e),.int .u8 (atD p i e)],.int .i64 (Qe p i e),.bool (MP p i e),.int .i64 (JG p i e)]⟩
theorem pAt:PS 89 kAt:=by
 refine con [(129,b6n),(134,UC),(135,f0h)] (by simpa using⟨d5a,f1s,pFind⟩) FAt (λ_ _=>none) kAt ?_ ?_ Tryz.func89 E1 E1 E1 ?_
 .intro args pre s h hp;unfold kAt at h;split at h
  .split at h
   .rename_i a p hx;rename_i i e _;cases h;exact Dr
   .cases h
  .cases h
 .exact C1
 .rintro⟨p,i,e⟩ hp;replace hp:p.l.length<=100000/\(∀c∈p.l,AD .u8 c.e)/\0<=e/\e<=255:=hp;refine X0a _ ?_;(repeat' first|constructor|intro h)<;>refine Lm ?_
  all_goals(try simp only[CE]at*)
  all_goals(have g:=@nm_le p.W p.H i e;have j:=@FN p;have k:=@WG p;have hs:=@f4a p)
  all_goals(have m:AR p.W p.H i e=0->FI p.W p.H i e=e:=λh=>by(unfold FI;rw[if_pos h]))
  all_goals(first
   |exact⟨⟨FT _,hp.1⟩,hp.2.1⟩
   |exact hp.2.2.1
   |(have b:BN p=0:=by simpa using(by assumption:(!decide (BN p=0))=false)
     have d:AR p.W p.H i e=0:=by simpa using(by assumption:(!decide (AR p.W p.H i e=0))=false)
     have f:=g (j b).1 d;first
     |(refine⟨⟨FT _,hp.1⟩,k b,hs b hp.2.1,f.1,f.2,?_⟩;rw[m d];exact⟨hp.2.2.1,hp.2.2.2⟩)
     |simp[JG,YN,atD,Qe,MP,b,d])
   |(have b:BN p=0:=by simpa using(by assumption:(!decide (BN p=0))=false)
     have d:¬AR p.W p.H i e=0:=by simpa using(by assumption:(!decide (AR p.W p.H i e=0))=true)
     simp[JG,YN,atD,Qe,MP,b,d];done)
   |(have b:¬BN p=0:=by simpa using(by assumption:(!decide (BN p=0))=true)
     simp[JG,YN,atD,Qe,MP,b];done)
   |skip)
theorem ptEta(p:Pt):(⟨p.W,p.H,p.l⟩:Pt)=p:=rfl
def AZ(p:Pt)(i e:Int):Int:=bif MP p i e then(p.l.getD (JH p.l (EI p.W p.H i e) (FI p.W p.H i e)) d0).k else 0
def WT:AH
 | [x,.int .i64 i,.int .u8 e]=>match Pl x with
   |some (a,p)=>some (a/\(∀c∈p.l,AD .u8 c.e)/\0<=e/\e<=255,.tup [.int .u8 (AZ p i e),.int .i64 (JG p i e)])
   |none=>none
 |_=>none
def FPKind:Fam:=⟨Pt×Int×Int,λ(p,i,e)=>[KC p,.int .i64 i,.int .u8 e],λ(p,_,e)=>p.l.length<=100000/\(∀c∈p.l,AD .u8 c.e)/\0<=e/\e<=255,λ(p,i,e)=>.tup [.int .u8 (AZ p i e),.int .i64 (JG p i e)]⟩
theorem d9m:PS 31 WT:=by
 refine con [(89,kAt)] (by simpa using pAt) FPKind (λ_ _=>none) WT ?_ ?_ Tryz.func31 E1 E1 E1 ?_
 .intro args pre s h hp;unfold WT at h;split at h
  .split at h
   .rename_i a p hx;rename_i i e _;cases h;exact Dr
   .cases h
  .cases h
 .exact C1
 .rintro⟨p,i,e⟩ hp;replace hp:p.l.length<=100000/\(∀c∈p.l,AD .u8 c.e)/\0<=e/\e<=255:=hp;refine X0a _ ?_;(repeat' first|constructor|intro h)<;>refine Lm ?_
  all_goals(try simp only[CE,ptEta]at*)
  all_goals(have g:MP p i e=true->JG p i e=0/\ME p.l (EI p.W p.H i e) (FI p.W p.H i e)=true:=λh=>by(unfold MP at h;grind))
  all_goals(first
   |exact⟨⟨FT _,hp.1⟩,hp.2⟩
   |rfl
   |(have d:MP p i e=true:=by grind
     have b:=g d;have f:Qe p i e=(JH p.l (EI p.W p.H i e) (FI p.W p.H i e):Int):=by unfold Qe;rw[if_pos b.1]
     first
     |(show 0<=Qe p i e/\Qe p i e<_
       rw[f];have q:=b.2;unfold ME at q;grind)
     |(show (p.l.getD (Qe p i e).toNat d0).k=_
       rw[f,K0];unfold AZ;rw[d,cond_true])
     |exact b.1.symm)
   |(have d:JG p i e=0->MP p i e=false:=by grind
     have b:MP p i e=false:=by grind
     unfold AZ;rw[b,cond_false])
   |skip)
theorem cl_eta(c:Cl):(⟨c.x,c.y,c.q⟩:Cl)=c:=rfl
def GK(b:Bd)(u e:Int):Cl:=
 ⟨keep (HM (b.pl.getD u.toNat AG.d).t (b.pl.getD u.toNat AG.d).x (b.pl.getD u.toNat AG.d).y (IC (BV b.p.W b.p.H u) (BW b.p.W b.p.H u) (BZ b.p.W b.p.H u) e) (IH (BV b.p.W b.p.H u) (BW b.p.W b.p.H u) (BZ b.p.W b.p.H u) e) (HJ (BV b.p.W b.p.H u) (BW b.p.W b.p.H u) (BZ b.p.W b.p.H u) e)) (MB (b.pl.getD u.toNat AG.d).t (b.pl.getD u.toNat AG.d).x (b.pl.getD u.toNat AG.d).y (IC (BV b.p.W b.p.H u) (BW b.p.W b.p.H u) (BZ b.p.W b.p.H u) e) (IH (BV b.p.W b.p.H u) (BW b.p.W b.p.H u) (BZ b.p.W b.p.H u) e)),
  keep (HM (b.pl.getD u.toNat AG.d).t (b.pl.getD u.toNat AG.d).x (b.pl.getD u.toNat AG.d).y (IC (BV b.p.W b.p.H u) (BW b.p.W b.p.H u) (BZ b.p.W b.p.H u) e) (IH (BV b.p.W b.p.H u) (BW b.p.W b.p.H u) (BZ b.p.W b.p.H u) e) (HJ (BV b.p.W b.p.H u) (BW b.p.W b.p.H u) (BZ b.p.W b.p.H u) e)) (MV (b.pl.getD u.toNat AG.d).t (b.pl.getD u.toNat AG.d).x (b.pl.getD u.toNat AG.d).y (IC (BV b.p.W b.p.H u) (BW b.p.W b.p.H u) (BZ b.p.W b.p.H u) e) (IH (BV b.p.W b.p.H u) (BW b.p.W b.p.H u) (BZ b.p.W b.p.H u) e)),
  keep (HM (b.pl.getD u.toNat AG.d).t (b.pl.getD u.toNat AG.d).x (b.pl.getD u.toNat AG.d).y (IC (BV b.p.W b.p.H u) (BW b.p.W b.p.H u) (BZ b.p.W b.p.H u) e) (IH (BV b.p.W b.p.H u) (BW b.p.W b.p.H u) (BZ b.p.W b.p.H u) e) (HJ (BV b.p.W b.p.H u) (BW b.p.W b.p.H u) (BZ b.p.W b.p.H u) e)) (LJ (b.pl.getD u.toNat AG.d).t (HJ (BV b.p.W b.p.H u) (BW b.p.W b.p.H u) (BZ b.p.W b.p.H u) e))⟩
def FM(b:Bd)(u:Int):Cl:=b.im.getD u.toNat CJ.d
theorem oth_eq(b:Bd)(u e:Int):(⟨keep (HM (b.pl.getD u.toNat AG.d).t (b.pl.getD u.toNat AG.d).x (b.pl.getD u.toNat AG.d).y (IC (BV b.p.W b.p.H u) (BW b.p.W b.p.H u) (BZ b.p.W b.p.H u) e) (IH (BV b.p.W b.p.H u) (BW b.p.W b.p.H u) (BZ b.p.W b.p.H u) e) (HJ (BV b.p.W b.p.H u) (BW b.p.W b.p.H u) (BZ b.p.W b.p.H u) e)) (MB (b.pl.getD u.toNat AG.d).t (b.pl.getD u.toNat AG.d).x (b.pl.getD u.toNat AG.d).y (IC (BV b.p.W b.p.H u) (BW b.p.W b.p.H u) (BZ b.p.W b.p.H u) e) (IH (BV b.p.W b.p.H u) (BW b.p.W b.p.H u) (BZ b.p.W b.p.H u) e)),keep (HM (b.pl.getD u.toNat AG.d).t (b.pl.getD u.toNat AG.d).x (b.pl.getD u.toNat AG.d).y (IC (BV b.p.W b.p.H u) (BW b.p.W b.p.H u) (BZ b.p.W b.p.H u) e) (IH (BV b.p.W b.p.H u) (BW b.p.W b.p.H u) (BZ b.p.W b.p.H u) e) (HJ (BV b.p.W b.p.H u) (BW b.p.W b.p.H u) (BZ b.p.W b.p.H u) e)) (MV (b.pl.getD u.toNat AG.d).t (b.pl.getD u.toNat AG.d).x (b.pl.getD u.toNat AG.d).y (IC (BV b.p.W b.p.H u) (BW b.p.W b.p.H u) (BZ b.p.W b.p.H u) e) (IH (BV b.p.W b.p.H u) (BW b.p.W b.p.H u) (BZ b.p.W b.p.H u) e)),keep (HM (b.pl.getD u.toNat AG.d).t (b.pl.getD u.toNat AG.d).x (b.pl.getD u.toNat AG.d).y (IC (BV b.p.W b.p.H u) (BW b.p.W b.p.H u) (BZ b.p.W b.p.H u) e) (IH (BV b.p.W b.p.H u) (BW b.p.W b.p.H u) (BZ b.p.W b.p.H u) e) (HJ (BV b.p.W b.p.H u) (BW b.p.W b.p.H u) (BZ b.p.W b.p.H u) e)) (LJ (b.pl.getD u.toNat AG.d).t (HJ (BV b.p.W b.p.H u) (BW b.p.W b.p.H u) (BZ b.p.W b.p.H u) e))⟩:Cl)=GK b u e:=rfl
theorem im_eq(b:Bd)(u:Int):b.im.getD u.toNat CJ.d=FM b u:=rfl
def JX(b:Bd)(u e:Int)(s:Sm):Sm:=
 if AR b.p.W b.p.H u e=0 then
  if AE b.p.W b.p.H u e<u then s
  else if AZ b.p u e=0 then {s with ps:=s.ps++[if FM b u=s.b then⟨AE b.p.W b.p.H u e,u⟩else⟨u,AE b.p.W b.p.H u e⟩]}
  else {s with ls:=s.ls++[⟨if FM b u=s.b then 1 else 0,if b.ht.getD u.toNat 0<b.ht.getD (AE b.p.W b.p.H u e).toNat 0 then u else AE b.p.W b.p.H u e,if b.ht.getD u.toNat 0<b.ht.getD (AE b.p.W b.p.H u e).toNat 0 then AE b.p.W b.p.H u e else u⟩]}
 else {s with en:=s.en++[u]}
def Ho(b:Bd)(u e:Int)(S:List Sm):List Sm:=
 let T:=EK S (FM b u) (GK b u e)
 let i:=EC T (KO (FM b u) (GK b u e))
 T.set i (JX b u e (T.getD i BM))
theorem g1g(b:Bd)(u e:Int)(s:Sm):CZ (JX b u e s)=CZ s:=by
 unfold JX;split
 .split
  .rfl
  .split<;>rfl
 .rfl
theorem b1f{α:Type}{T:List α}{i j:Nat}{x d:α}(h:i<T.length):(T.set i x).getD j d=if j=i then x else T.getD j d:=by
 by_cases e:j=i
 .subst e;simp[h]
 .simp[Jz (Ne.symm e),e]
theorem b2a(T:List Sm)(i:Nat)(s:Sm)(h:CZ s=CZ (T.getD i BM)):(T.set i s).map CZ=T.map CZ:=by
 apply Mh;intro j;simp only[K9];by_cases e:j=i
 .subst e;by_cases a:j<T.length
  .simp[a,h]
  .simp[a]
 .rw[Jz (Ne.symm e)]
theorem Ug(S:List Sm)(q:List Int):EE S q=(S.map CZ).any λk=>decide (k=q):=by simp[EE,List.any_map,Function.comp_def]
theorem XO(S:List Sm)(q:List Int):EC S q=(S.map CZ).findIdx λk=>decide (k=q):=by simp[EC,List.findIdx_map,Function.comp_def]
theorem b4i(b:Bd)(u e:Int)(S:List Sm):(Ho b u e S).map CZ=(EK S (FM b u) (GK b u e)).map CZ:=b2a _ _ _ (g1g b u e _)
theorem f2u(b:Bd)(u e:Int)(S:List Sm):∀q,EE (EK S (FM b u) (GK b u e)) q=EE (Ho b u e S) q:=λq=>by rw[Ug,Ug,b4i]
theorem f1q(b:Bd)(u e:Int)(S:List Sm):∀q,EE (EK S (FM b u) (GK b u e)) q=true->EC (EK S (FM b u) (GK b u e)) q=EC (Ho b u e S) q:=λq _=>by rw[XO,XO,b4i]
theorem c82(b:Bd)(u e:Int)(S:List Sm):(Ho b u e S).length=(EK S (FM b u) (GK b u e)).length:=by simp[Ho]
theorem c2u{S T:List Sm}(h:S.map CZ=T.map CZ)(i:Nat)(hi:i<S.length):KX S i=KX T i:=by
 have a:S.length=T.length:=by simpa using Mj List.length h
 have e:CZ (S.getD i BM)=CZ (T.getD i BM):=by have:=Mj (λl=>l[i]?) h;simp only[K9,Jh hi,Jh (a▸hi),Ks,Ka]at this;simpa[Jg,hi,a▸hi]using this
 simp only[CZ,J9]at e;obtain⟨b,c,d,f,g,j⟩:=e;simp only[KX,b,c,d,f,g,j]
theorem f1u(b:Bd)(u e:Int)(S:List Sm):∀i,i<(EK S (FM b u) (GK b u e)).length->KX (EK S (FM b u) (GK b u e)) i=KX (Ho b u e S) i:=λi a=>c2u (b4i b u e S).symm i a
theorem WZ(S:List Sm)(x y:Cl):EE (EK S x y) (KO x y)=true:=by
 unfold EK;split
 .assumption
 .simp[EE,KO,CZ]
theorem f9r(b:Bd)(u e:Int)(S:List Sm):(Ho b u e S).getD (EC (EK S (FM b u) (GK b u e)) (KO (FM b u) (GK b u e))) BM=JX b u e ((EK S (FM b u) (GK b u e)).getD (EC (EK S (FM b u) (GK b u e)) (KO (FM b u) (GK b u e))) BM):=by unfold Ho;rw[b1f (Oh (WZ S _ _)),Ji rfl]
theorem g1z{b:Bd}{u e:Int}{S:List Sm}{j:Nat}(h:¬j=EC (EK S (FM b u) (GK b u e)) (KO (FM b u) (GK b u e))):(Ho b u e S).getD j BM=(EK S (FM b u) (GK b u e)).getD j BM:=by unfold Ho;rw[b1f (Oh (WZ S _ _)),Jj h]
theorem d52{b:Bd}{u e:Int}{s:Sm}(h:(!decide (AR b.p.W b.p.H u e=0))=true):JX b u e s={s with en:=s.en++[u]}:=by have h:¬AR b.p.W b.p.H u e=0:=E6;unfold JX;rw[if_neg h]
theorem f4v{b:Bd}{u e:Int}{s:Sm}(h:(!decide (AR b.p.W b.p.H u e=0))=false)(a:decide (AE b.p.W b.p.H u e<u)=true):JX b u e s=s:=by have h:AR b.p.W b.p.H u e=0:=E6;unfold JX;rw[if_pos h,if_pos (of_decide_eq_true a)]
theorem f59{b:Bd}{u e:Int}{s:Sm}(h:(!decide (AR b.p.W b.p.H u e=0))=false)(a:decide (AE b.p.W b.p.H u e<u)=false)(c:AZ b.p u e=0):JX b u e s={s with ps:=s.ps++[if FM b u=s.b then⟨AE b.p.W b.p.H u e,u⟩else⟨u,AE b.p.W b.p.H u e⟩]}:=by have h:AR b.p.W b.p.H u e=0:=E6;unfold JX;rw[if_pos h,if_neg (of_decide_eq_false a),if_pos c]
theorem c7x{b:Bd}{u e:Int}{s:Sm}(h:(!decide (AR b.p.W b.p.H u e=0))=false)(a:decide (AE b.p.W b.p.H u e<u)=false)(c:¬AZ b.p u e=0):JX b u e s={s with ls:=s.ls++[⟨if FM b u=s.b then 1 else 0,if b.ht.getD u.toNat 0<b.ht.getD (AE b.p.W b.p.H u e).toNat 0 then u else AE b.p.W b.p.H u e,if b.ht.getD u.toNat 0<b.ht.getD (AE b.p.W b.p.H u e).toNat 0 then AE b.p.W b.p.H u e else u⟩]}:=by have h:AR b.p.W b.p.H u e=0:=E6;unfold JX;rw[if_pos h,if_neg (of_decide_eq_false a),if_neg c]
theorem SC{α:Type}{R:RT α}{l:List α}{x:α}{c:List SV}(a:c=R.sv x):∀i,i<l.length+1->(if i<l.length then R.row l i else(List.map (λx:Nat×List SV=>x.snd) [(0,c)].reverse).getD (i-l.length) [])=R.row (l++[x]) i:=by
 intro i hi;by_cases h:i<l.length
 .rw[Ji h,b0e R h]
 .have:i=l.length:=Dz;subst this;rw[Jj h,L3,b0d,a];rfl
theorem mem_en{s:Sm}{x:Int}{c:List SV}{m:Mem}(h:m=⟨(KU s).cs,[(s.ps.length,CK.row s.ps),(s.ls.length,CB.row s.ls),(s.en.length+1,λi=>if i<s.en.length then AC.row s.en i else(List.map (λx:Nat×List SV=>x.snd) [(0,c)].reverse).getD (i-s.en.length) [])]⟩)(a:c=AC.sv x):m.le (KU {s with en:=s.en++[x]}):=by subst h;exact⟨rfl,rfl,λ_ _=>rfl,rfl,λ_ _=>rfl,E2,SC a,Jm⟩
theorem f5i{s:Sm}{x:Pa}{c:List SV}{m:Mem}(h:m=⟨(KU s).cs,[(s.ps.length+1,λi=>if i<s.ps.length then CK.row s.ps i else(List.map (λx:Nat×List SV=>x.snd) [(0,c)].reverse).getD (i-s.ps.length) []),(s.ls.length,CB.row s.ls),(s.en.length,AC.row s.en)]⟩)(a:c=CK.sv x):m.le (KU {s with ps:=s.ps++[x]}):=by subst h;exact⟨rfl,E2,SC a,rfl,λ_ _=>rfl,rfl,λ_ _=>rfl,Jm⟩
theorem f6g{s:Sm}{x:Lo}{c:List SV}{m:Mem}(h:m=⟨(KU s).cs,[(s.ps.length,CK.row s.ps),(s.ls.length+1,λi=>if i<s.ls.length then CB.row s.ls i else(List.map (λx:Nat×List SV=>x.snd) [(0,c)].reverse).getD (i-s.ls.length) []),(s.en.length,AC.row s.en)]⟩)(a:c=CB.sv x):m.le (KU {s with ls:=s.ls++[x]}):=by subst h;exact⟨rfl,rfl,λ_ _=>rfl,E2,SC a,rfl,λ_ _=>rfl,Jm⟩
theorem cl_of{a b:Cl}(h:(decide (a.x=b.x)&&(decide (a.y=b.y)&&decide (a.q=b.q)))=true):a=b:=by obtain⟨x,y,q⟩:=a;obtain⟨x',y',q'⟩:=b;simp at h;obtain⟨rfl,rfl,rfl⟩:=h;rfl
theorem f7f{a b:Cl}(h:(decide (a.x=b.x)&&(decide (a.y=b.y)&&decide (a.q=b.q)))=false):¬a=b:=by rintro rfl;simp at h
theorem f03{b:Bd}{u e:Int}{s:Sm}(h:(!decide (AR b.p.W b.p.H u e=0))=false)(c:decide (AE b.p.W b.p.H u e<u)=false)(f:decide (AZ b.p u e=0)=false)(a:decide (b.ht.getD u.toNat AC.d<b.ht.getD (AE b.p.W b.p.H u e).toNat AC.d)=true):JX b u e s={s with ls:=s.ls++[⟨if FM b u=s.b then 1 else 0,u,AE b.p.W b.p.H u e⟩]}:=by have a:b.ht.getD u.toNat 0<b.ht.getD (AE b.p.W b.p.H u e).toNat 0:=L0 a;rw[c7x h c (Ni f),Ji a,Ji a]
theorem d4v{b:Bd}{u e:Int}{s:Sm}(h:(!decide (AR b.p.W b.p.H u e=0))=false)(c:decide (AE b.p.W b.p.H u e<u)=false)(f:decide (AZ b.p u e=0)=false)(a:decide (b.ht.getD u.toNat AC.d<b.ht.getD (AE b.p.W b.p.H u e).toNat AC.d)=false):JX b u e s={s with ls:=s.ls++[⟨if FM b u=s.b then 1 else 0,AE b.p.W b.p.H u e,u⟩]}:=by have a:¬b.ht.getD u.toNat 0<b.ht.getD (AE b.p.W b.p.H u e).toNat 0:=Ni a;rw[c7x h c (Ni f),Jj a,Jj a]
theorem mvQ_le(t Q:Int):0<=LJ t Q/\LJ t Q<=4:=d47 t Q 4
theorem oth_q(b:Bd)(u e:Int):AD .u8 (GK b u e).q:=by have:=mvQ_le (b.pl.getD u.toNat AG.d).t (HJ (BV b.p.W b.p.H u) (BW b.p.W b.p.H u) (BZ b.p.W b.p.H u) e);unfold GK keep;simp only[AD];split<;>omega
theorem c0r{α:Type}{P:α->Prop}{l:List α}{d:α}(h:∀x∈l,P x)(a:P d)(i:Nat):P (l.getD i d):=by
 rw[Jg];cases e:l[i]? with
 |none=>exact a
 |some x=>exact h x (Jn e)
theorem f3d{S:List Sm}{x y:Cl}(h:∀s∈S,s.ps.length<=1000000/\s.ls.length<=1000000/\s.en.length<=1000000)(i:Nat):((EK S x y).getD i BM).ps.length<=1000000/\((EK S x y).getD i BM).ls.length<=1000000/\((EK S x y).getD i BM).en.length<=1000000:=by
 refine c0r (P:=λs:Sm=>s.ps.length<=1000000/\s.ls.length<=1000000/\s.en.length<=1000000) (λs hs=> ?_) (by simp[BM]) i;unfold EK at hs;split at hs
 .exact h s hs
 .rcases K6.1 hs with hs|hs
  .exact h s hs
  .rw[Kb.1 hs];simp
theorem f3w{α:Type}{R:RT α}{l:List α}{x:α}{z:Nat->List SV}(a:z 0=R.sv x):∀i,i<l.length+1->(if i<l.length then R.row l i else z (i-l.length))=R.row (l++[x]) i:=by
 intro i hi;by_cases h:i<l.length
 .rw[Ji h,b0e R h]
 .have:i=l.length:=Dz;subst this;rw[Jj h,L3,a,b0d]
def bdIn(b:Bd)(S:List Sm)(u e:Int):Prop:=
 (b.p.l.length<=100000/\∀c∈b.p.l,AD .u8 c.e)/\(0<=e/\e<=255)/\(0<=u/\u<(b.pl.length:Int)/\u<(b.im.length:Int)/\u<(b.ht.length:Int))/\(AR b.p.W b.p.H u e=0->0<=AE b.p.W b.p.H u e/\AE b.p.W b.p.H u e<(b.ht.length:Int))/\
 (∀m∈b.pl,0<=m.t/\m.t<=255)/\(∀c∈b.im,AD .u8 c.q)/\S.length<=1000000/\∀s∈S,s.ps.length<=1000000/\s.ls.length<=1000000/\s.en.length<=1000000
def c7p:HK:=λa own=>match a with
 | [.own 0 0,.int .i64 u,.int .u8 e]=>(asBd own).map λq=>⟨q.1/\bdIn q.2.1 q.2.2 u e,.tup [],Tx q.2.1 (Ho q.2.1 u e q.2.2),[3,4]⟩
 |_=>none
def FBMeet:FamH:=⟨(Bd×List Sm)×Int×Int,λ(_,u,e)=>[.own 0 0,.int .i64 u,.int .u8 e],λ((b,S),_,_)=>Tx b S,λ((b,S),u,e)=>bdIn b S u e,λ_=>.tup [],λ((b,S),u,e)=>Tx b (Ho b u e S),[3,4]⟩
theorem pBMeet:HS 110 c7p:=by
 refine JO {l:=[(90,Wo),(91,VA),(66,WQ),(32,Rw),(31,WT)],h:=[(155,hBAt)],c2:=true,gr:=λid=>bif Nat.beq id 3 then [.focus 12,.keep [0,1,2,6,8,10,12,13,14,15,17,68,81,103,117,136,151]]else [.keep [0,1,2,6,8,10,12,13,14,15,17,68,81,103,117,136,151]],G:={gx:=λ_=>[.unfocus 4]}} ⟨by simpa using⟨b2b,b01,b5n,UT,d9m⟩,E2,by simpa using pBAt⟩ FBMeet (λ_ _=>none) c7p ?_ ?_ ?_ Tryz.func110 E1 E1 E1 ?_
 .intro args own r h a;unfold c7p at h;split at h
  .rename_i u e;simp only[Jq]at h;obtain⟨⟨q,n,S⟩,hx,rfl⟩:=h;obtain⟨o,s,h3⟩:=d3n hx a.1;exact⟨((n,S),u,e),⟨Ea,Ea,Ea,Jm⟩,o,s,a.2,rfl,rfl,rfl⟩
  .cases h
 .exact C1
 .intro i;show 5<=5;decide
 .rintro⟨⟨b,S⟩,u,e⟩ μ a;replace a:bdIn b S u e:=a;have g:=UU b.p.W b.p.H u;have v:=d4k (X:=BV b.p.W b.p.H u) (Y:=BW b.p.W b.p.H u) g.1 a.2.1.1;have w:=oth_q b u e;have z:AD .u8 (FM b u).q:=c0r (P:=λc:Cl=>AD .u8 c.q) a.2.2.2.2.2.1 (by show (0:Int)<=0/\(0:Int)<=255;omega) u.toNat
  have k:=c0r (P:=λm:Mv=>0<=m.t/\m.t<=255) (d:=AG.d) a.2.2.2.2.1 E4 u.toNat
  have A:=Oh (WZ S (FM b u) (GK b u e));have q8:=f3d (x:=FM b u) (y:=GK b u e) a.2.2.2.2.2.2.2 (EC (EK S (FM b u) (GK b u e)) (KO (FM b u) (GK b u e)));have B:S.length<=1000000:=a.2.2.2.2.2.2.1;refine X0a _ ?_;(repeat' first|constructor|intro h)<;>refine Lm ?_
  all_goals(try simp only[CE,RT.lst_row,YE,oth_eq,cl_eta,im_eq]at*)
  all_goals(first
   |exact Bs
   |exact B3
   |exact f2u _ _ _ _
   |exact f1q _ _ _ _
   |exact f1u _ _ _ _
   |exact(c82 _ _ _ _).symm
   |exact a.2.1.1
   |exact⟨a.2.2.1.1,a.2.2.1.2.1⟩
   |exact⟨a.2.2.1.1,a.2.2.1.2.2.1⟩
   |exact⟨a.2.2.1.1,a.2.2.1.2.2.2⟩
   |exact⟨g.1,a.2.1.1⟩
   |exact⟨k.1,k.2,v.1⟩
   |exact⟨Jm,A⟩
   |exact⟨⟨FT _,a.1.1⟩,a.1.2,a.2.1⟩
   |exact a.2.2.2.1 Ie
   |exact⟨Dz,MQ E1 Dz⟩
   |(refine⟨⟨⟨⟨FT _,a.1.1⟩,RT.is_row AG _,RT.is_row CJ _,RT.is_row AC _⟩,Jm,λ_ _=>Jm,λ_=>Jm,λ_ _=>Jm,λi hi=> ?_⟩,⟨z,w⟩,B⟩
     rw[b4y];exact VK _)
   |(show u.toNat<b.ht.length;have:=a.2.2.1;omega)
   |(show (AE b.p.W b.p.H u e).toNat<b.ht.length;have:=a.2.2.2.1 Ie;omega)
   |skip)
  all_goals(intro j hj;by_cases f:j=EC (EK S (FM b u) (GK b u e)) (KO (FM b u) (GK b u e)))
  all_goals(first
   |(rw[Jj f,g1z f];exact VK _)
   |(subst f;rw[Ji rfl,f9r])
   |skip)
  all_goals(first
   |(rw[d52 E5]
     refine And.intro rfl (And.intro rfl (And.intro (λ_ _=>rfl) (And.intro rfl (And.intro (λ_ _=>rfl) (And.intro (by simp[]) (And.intro (f3w (R:=AC) rfl) trivial))))))
     done)
   |(rw[f4v E5 E5];exact And.intro rfl (And.intro rfl (And.intro (λ_ _=>rfl) (And.intro rfl (And.intro (λ_ _=>rfl) (And.intro rfl (And.intro (λ_ _=>rfl) trivial)))))))
   |skip)
  .rw[d52 E5];exact mem_en rfl rfl
  all_goals(try simp only[decide_true,Me,show decide ((1:Int)=0)=false from rfl,Bool.and_false,Bool.false_eq_true]at*)
  all_goals(try contradiction)
  all_goals(first
   |(exfalso;exact Bool.noConfusion ((show decide (AZ b.p u e=0)=true from E5).symm.trans E5))
   |(rw[f59 E5 E5 (L0 E5)]
     first
      |(rw[Ji (cl_of E5)];exact f5i rfl rfl)
      |(rw[Jj (f7f E5)];exact f5i rfl rfl))
   |(first|rw[f03 E5 E5 E5 E5]|rw[d4v E5 E5 E5 E5]
     first
      |(rw[Ji (cl_of E5)];exact f6g rfl rfl)
      |(rw[Jj (f7f E5)];exact f6g rfl rfl))
   |skip)
section
open Go.Sort
theorem b00{α:Type}[Inhabited α]{enc:α->List Value}{k:Nat}{w:World}{b o m:Nat}{a:Array α}{os:Array Obj}{i:Nat}(hi:i<w.heap.size)(c:i≠b):(sortWorldK enc k w b o m a os).heap[i]?=w.heap[i]?:=by unfold sortWorldK putRowK;rw[heap_grow_old _ _ Et];show (w.heap.modify b _)[i]?=_;rw[M8,Jj (Ne.symm c)]
theorem b1w{α:Type}[Inhabited α]{enc:α->List Value}{k:Nat}{w:World}{b o m:Nat}{a:Array α}{os:Array Obj}{c:Array Value}{T:TypeId}{z:Nat×Nat}(h:w.heap[b]?=some (.cells c T z)):(sortWorldK enc k w b o m a os).heap[b]?=some (.cells (putCells id o (flatK enc k a) c) T z):=by have hi:b<w.heap.size:=(K7.1 h).1;unfold sortWorldK putRowK;rw[heap_grow_old _ _ Et];show (w.heap.modify b _)[b]?=_;rw[M8,Ji rfl,h];rfl
theorem b3b{α:Type}[Inhabited α]{enc:α->List Value}{k:Nat}{w:World}{b o m:Nat}{a:Array α}{os:Array Obj}:w.heap.size<=(sortWorldK enc k w b o m a os).heap.size:=by unfold sortWorldK putRowK;simp
theorem d6d{α:Type}[Inhabited α]{enc:α->List Value}{k:Nat}{w:World}{b o m:Nat}{a:Array α}{os:Array Obj}{X:Nat->Prop}(c:X b):Fr w.heap.size X w (sortWorldK enc k w b o m a os):=
 ⟨rfl,rfl,rfl,λ_=>Nat.le_add_right _ _,b3b,λ_ d f=>b00 d (λe=>f (e▸c))⟩
theorem b84{X:Nat->Prop}{w w':World}(h:Fr w.heap.size X w w')(b:∀i,¬X i):∃q c,w'=grow (w.drewN q) c:=by
 refine⟨w'.drawn-w.drawn,w'.heap.extract w.heap.size w'.heap.size,?_⟩;have h1:=h.drawn trivial;have d:w'.heap=w.heap++w'.heap.extract w.heap.size w'.heap.size:=by
  apply Array.ext_getElem?;intro i;rw[Array.getElem?_append];split
  .rename_i a;exact h.block i a (b i)
  .rename_i a;have:=h.size;rw[Array.getElem?_extract];split
   .congr 1;omega
   .rw[Array.getElem?_eq_none];omega
 have e:=h.os;have f:=h.tape;have g:=h.output;cases w';cases w;simp only[grow,World.drewN,World.mk.injEq]at*;subst e f g;exact⟨d,rfl,Dz,rfl,rfl⟩
theorem b0s{F c:Array Value}{o t:Nat}(h:t<F.size)(a:o+t<c.size):(putCells id o F c)[o+t]?=some F[t]!:=by simp only[putCells,Array.getElem?_mapIdx];rw[Mm a];simp only[Ks];rw[Ji ⟨Dz,Dz⟩,show o+t-o=t from Dz];rfl
theorem b06{F c:Array Value}{o:Nat}:(putCells id o F c).size=c.size:=by simp[putCells]
theorem b4d{F c:Array Value}{o:Nat}{v:Value}(b:∀t,t<F.size->F[t]!.oneCell'=true)(d:∀v∈c,v.oneCell'=true)(h:v∈putCells id o F c):v.oneCell'=true:=by
 obtain⟨i,a,rfl⟩:=Array.mem_iff_getElem.1 h;have e:i<c.size:=by rw[b06]at a;exact a
 simp only[putCells,Array.getElem_mapIdx];split
 .exact b _ Dz
 .exact d _ (Array.getElem_mem e)
theorem c9c{α:Type}[Inhabited α]{enc:α->List Value}{k:Nat}{d:Array α}(b:∀x,(enc x).length=k)(c:∀x,∀v∈enc x,v.oneCell'=true){t:Nat}(a:t<(flatK enc k d).size):(flatK enc k d)[t]!.oneCell'=true:=by
 rw[size_flatK]at a;rw[get_flatK _ _ _ _ a];have k0:0<k:=by
  rcases Kt k with h|h
  .subst h;simp at a
  .exact h
 have:t%k<(enc d[t/k]!).length:=by rw[b];exact Nq _ k0
 rw[L6 (enc d[t/k]!) (t%k) this];exact c _ _ (Kj this)
theorem We{α:Type}[Inhabited α]{enc:α->List Value}{k:Nat}{d:Array α}{i j:Nat}(hi:i<d.size)(hj:j<k):i*k+j<(flatK enc k d).size/\(flatK enc k d)[i*k+j]! =(enc d[i]!)[j]!:=by
 have lt:i*k+j<d.size*k:=by have:=Kr k (show i+1<=d.size from hi);rw[Ma,Nat.one_mul]at this;omega
 have a:(i*k+j)/k=i:=(blk_iff k i _ Dz).1 ⟨Dz,Dz⟩;have b:(i*k+j)%k=j:=by rw[Nat.mod_eq_sub_div_mul,a];omega
 exact⟨by simpa using lt,by rw[get_flatK _ _ _ _ lt,a,b]⟩
end
section
open Go.Sort Go.Proofs Go.Shelf
def BA:List Int->List Int->Int
 | [],[]=>0
 | [],_::_=> -1
 |_::_,[]=>1
 |a::r,b::q=>if a=b then BA r q else CC a b
theorem KQ:∀l m:List Int,BA m l= -BA l m
 | [],[]=>rfl
 | [],_::_=>rfl
 |_::_,[]=>rfl
 |a::r,b::q=>by
  simp only[BA];by_cases h:a=b
  .rw[Ji h,Ji h.symm];exact KQ r q
  .rw[Jj h,Jj (λe=>h e.symm)];unfold CC;repeat' split<;>omega
theorem Pu:∀l m:List Int,BA l m=0->l=m
 | [],[],_=>rfl
 | [],_::_,h=>Fs
 |_::_,[],h=>Fs
 |a::r,b::q,h=>by
  simp only[BA]at h;by_cases e:a=b
  .rw[Ji e]at h;rw[e,Pu r q h]
  .rw[Jj e]at h;unfold CC at h;split at h<;>(try split at h)<;>omega
theorem UR(l:List Int):BA l l=0:=by have:=KQ l l;omega
theorem Um:∀l m n:List Int,BA l m<0->BA m n<0->BA l n<0
 | [],[],n,h,_=>Fs
 | [],_::_,[],_,h=>Fs
 | [],_::_,_::_,_,_=>by simp[BA]
 |_::_,[],n,h,_=>Fs
 |_::_,_::_,[],_,h=>Fs
 |a::r,b::q,c::s,e,d=>by
  simp only[BA]at e d⊢;have k (x y:Int):CC x y<0->x<y:=by unfold CC;split<;>(try split)<;>omega
  have i (x y:Int) (h:x<y):CC x y<0:=by unfold CC;rw[if_pos h];omega
  by_cases g:a=b
  .subst g;rw[Ji rfl]at e;by_cases f:a=c
   .subst f;rw[Ji rfl]at d⊢;exact Um r q s e d
   .rw[Jj f]at d⊢;exact d
  .rw[Jj g]at e;have:=k _ _ e;by_cases f:b=c
   .subst f;rw[Jj g];exact e
   .rw[Jj f]at d;have:=k _ _ d;rw[Jj Dz];exact i _ _ Dz
theorem d76{α:Type}(key:α->List Int):SWO (ltOf λx y:α=>BA (key x) (key y))where
 irrefl x:=by simp[ltOf,UR]
 trans x y z h1 h2:=by simp only[ltOf,Ju]at*;exact Um _ _ _ h1 h2
 ntrans x y z h1 h2:=by
  simp only[ltOf,L8]at*;intro a;have n1:=KQ (key x) (key y);have n2:=KQ (key y) (key z);by_cases b:BA (key x) (key y)=0
  .rw[Pu _ _ b]at a;exact h2 a
  .exact h2 (Um _ _ _ Dz a)
def WR{β:Type}(key:β->List Int)(x:β):List β->List β
 | []=>[x]
 |y::r=>if BA (key x) (key y)<=0 then x::y::r else y::WR key x r
def FD{β:Type}(key:β->List Int)(l:List β):List β:=l.foldr (WR key) []
theorem b79{β:Type}(key:β->List Int)(x:β):∀l,(WR key x l).Perm (x::l)
 | []=>.refl _
 |y::r=>by
  simp only[WR];split
  .exact .refl _
  .exact((b79 key x r).cons y).trans (.swap x y r)
theorem RZ{β:Type}(key:β->List Int):∀l,(FD key l).Perm l
 | []=>.refl _
 |x::l=>(b79 key x _).trans ((RZ key l).cons x)
theorem NM{β:Type}(key:β->List Int)(l:List β):(FD key l).length=l.length:=(RZ key l).length_eq
theorem Qn{β:Type}(key:β->List Int)(l:List β)(x:β):x∈FD key l↔x∈l:=(RZ key l).mem_iff
theorem b9s{l m n:List Int}(h:BA l m<=0)(k:BA m n<=0):BA l n<=0:=by
 by_cases a:BA l m=0
 .rw[Pu _ _ a];exact k
 .by_cases b:BA m n=0
  .rw[<-Pu _ _ b];exact h
  .exact Int.le_of_lt (Um l m n Dz Dz)
theorem b6i{β:Type}(key:β->List Int)(x:β):∀l,l.Pairwise (λa b=>BA (key a) (key b)<=0)->(WR key x l).Pairwise (λa b=>BA (key a) (key b)<=0)
 | [],_=>List.pairwise_singleton _ _
 |y::r,h=>by
  have d:=Ku.1 h;simp only[WR];split
  .rename_i e;exact Ku.2 ⟨λz c=>by
    rcases Jv.1 c with rfl|c
    .exact e
    .exact b9s e (d.1 z c),h⟩
  .rename_i e;refine Ku.2 ⟨λz c=> ?_,b6i key x r d.2⟩;rcases Jv.1 ((b79 key x r).mem_iff.1 c)with rfl|c
   .have:=KQ (key z) (key y);omega
   .exact d.1 z c
theorem b0g{β:Type}(key:β->List Int):∀l,(FD key l).Pairwise (λa b=>BA (key a) (key b)<=0)
 | []=>List.Pairwise.nil
 |x::l=>b6i key x _ (b0g key l)
theorem b7m{β:Type}(key:β->List Int)(l:List β)(g:∀x∈l,∀y∈l,key x=key y->x=y):(l.mergeSort λx y=>decide (BA (key x) (key y)<=0))=FD key l:=by
 have d:=List.mergeSort_perm l (λx y=>decide (BA (key x) (key y)<=0));refine List.Perm.eq_of_pairwise (le:=λa b=>BA (key a) (key b)<=0) (λa b i j e f=> ?_) ?_ (b0g key l) (d.trans (RZ key l).symm)
 .have:=KQ (key a) (key b);exact g a (d.mem_iff.1 i) b ((Qn key l b).1 j) (Pu _ _ Dz)
 .have:=List.pairwise_mergeSort (le:=λx y=>decide (BA (key x) (key y)<=0)) (λa b c e f=>by simp only[Ju]at*;exact b9s e f) (λa b=>by have:=KQ (key a) (key b);simp only[Kp,Ju];omega) l;exact this.imp λh=>E6
theorem d7y{β:Type}{key:β->List Int}{l:List β}(h:(l.map key).Nodup):∀x∈l,∀y∈l,key x=key y->x=y:=by
 have a:=Kx.1 (L2.1 h);intro x hx y d e;obtain⟨i,b,rfl⟩:=Kg.1 hx;obtain⟨j,c,rfl⟩:=Kg.1 d;rcases My i j with h|h|h
 .exact absurd e (a i j b c h)
 .subst h;rfl
 .exact absurd e.symm (a j i c b h)
def MK:SV->Value
 |.int k n=>.int k n
 |_=>undef
section
variable{β:Type}{R:RT β}{w:World}{H:Nat->Prop}{μ:Mu}
theorem sv_D(b:∀x,∀s∈R.sv x,∃k n,s=.int k n){x:β}{i:Nat}{s:SV}{v:Value}(hs:(R.sv x)[i]?=some s)(a:((R.sv x).map MK)[i]?=some v):D w H μ s v:=by obtain⟨k,n,rfl⟩:=b x s (Jn hs);rw[K9,hs]at a;cases a;exact .int
theorem sv_V(a:∀x,∀s∈R.sv x,∃k n,s=.int k n){x:β}{i:Nat}{s:SV}{v:Value}(hs:(R.sv x)[i]?=some s)(b:D w H μ s v):((R.sv x).map MK)[i]?=some v:=by obtain⟨k,n,rfl⟩:=a x s (Jn hs);cases b;rw[K9,hs];rfl
end
def HQ{β:Type}(R:RT β)(P:β->Prop)(x:{x:β // P x}):List Value:=(R.sv x.1).map MK
theorem f0a{β:Type}(R:RT β){ρ:Ren}{fs fc:FuncId}(L:SlLaysF0.n6 Tryz.prog ρ)(m8:ρ.f 6=fs)(hU:∃fn,Tryz.prog.funcs[fs]?=some fn/\(fn.name== "runtime.NumGoroutine")=false/\fn.body.isNone=false)
 (aE:∀w,(isAgg (ρ.t 24)).run Tryz.prog w=.ok true w) (zE:∀w,(Go.sizeOf (ρ.t 24)).run Tryz.prog w=.ok R.sz w) (hL:∀x,(R.sv x).length=R.sz) (hI:∀x,∀s∈R.sv x,∃k n,s=.int k n)
 (kc:AH) (pc:PS fc kc) (eg:∀args w,(callFunc fc args).run Tryz.prog w=.ok (.enter fc args) w) (e:KI)
 (he:∀T sz n g rest pre g' r,e T sz n g rest=some (pre,g',r)->sz=R.sz/\r=false/\∃caps key,rest=[.clo fc caps]/\(pre->R.is n g/\n<=100000/\
   (∀x∈R.lst n g,∀y∈R.lst n g,∃p:Prop,kc ([.agg (R.sv x),.agg (R.sv y)]++caps)=some (p,.int .i64 (BA (key x) (key y)))/\p)/\(∀x∈R.lst n g,∀y∈R.lst n g,key x=key y->x=y)/\g'=R.row (FD key (R.lst n g)))):ES fs e:=by
 refine⟨hU,?_⟩;intro A w v T sz n g c rest vals pre g' r hA hv cd hB hD vw hp;obtain⟨rfl,rfl,caps,key,rfl,dc⟩:=he _ _ _ _ _ _ _ _ vw;obtain⟨md,hn,tv,tw,rfl⟩:=dc hp;obtain⟨fv,rfl⟩:∃fv,vals=[fv]:=by
  have:=hD.1;match vals,this with
  | [fv],_=>exact⟨fv,rfl⟩
 have hf:=hD.2 0 _ fv rfl rfl;cases hf with
 |clo cvs dt s9=>
 obtain⟨a,m,rfl,fx,j9,fk,hl,bc⟩:=hB;rcases Kt n with h0|h0
 .subst h0;have dv:=AnyF.slices_SortFunc_none {L with} a m (.func (.func fc) #[] cvs.toArray) w;rw[m8]at dv;refine dv.mono ?_;rintro e w' ⟨rfl,rfl⟩;refine⟨_,rfl,λh=>E9,λ_=>rfl,⟨a,m,rfl,fx,j9,fk,λi hi=>absurd hi Dz,?_⟩,Fr.refl _ _ _⟩;rcases bc with h|⟨b,o,vs,c9,rfl,hh,ho,h1,hd⟩
  .exact .inl h
  .exact D6
 .rcases bc with h|⟨b,o,vs,c9,rfl,hh,ho,h1,hd⟩
  .omega
  have hb:b<w.heap.size:=(K7.1 hh).1;have bb:(R.lst n g).length=n:=RT.lst_length R n g;have dm:∀i,i<n->(R.lst n g)[i]?=some (R.of (g i)):=λi hi=>by simp[RT.lst,hi]
  haveI:Inhabited {x:β // x∈R.lst n g}:=⟨⟨R.of (g 0),Jn (dm 0 h0)⟩⟩
  let d:Array {x:β // x∈R.lst n g}:=(R.lst n g).attach.toArray
  have qc:d.size=n:=by simp only[d,List.size_toArray,List.length_attach];exact bb
  have P6:∀i,i<n->(d[i]!).1=R.of (g i):=λi hi=>by rw[L6 d i Dz];simp only[d,List.getElem_toArray,List.getElem_attach];simp[RT.lst]
  have bg:∀i j,i<n->j<R.sz->o+i*R.sz+j<vs.length:=λi j hi hj=>by have:=LO hi hj;have:n*R.sz<=m*R.sz:=Kr _ fx;omega
  have hk:∀x,(HQ R (λx=>x∈R.lst n g) x).length=R.sz:=λx=>by simp[HQ,hL]
  have cw:∀i j,i<n->j<R.sz->vs[o+i*R.sz+j]?=some ((HQ R (λx=>x∈R.lst n g) d[i]!)[j]!):=by
   intro i j hi hj;have b6:=bg i j hi hj;have bi:j<(R.sv (R.of (g i))).length:=by rw[hL];exact hj
   have hs:(R.sv (R.of (g i)))[j]?=some (R.sv (R.of (g i)))[j]:=Jh bi;have R8:=hd i j _ _ hi (by rw[md i hi];exact hs) (Jh b6);have:=sv_V hI hs R8;rw[Jh b6];unfold HQ;rw[P6 i hi,L6 _ j F9];rw[Jh F9]at this;exact this.symm
  have w7:∀x,∀v∈HQ R (λx=>x∈R.lst n g) x,v.oneCell'=true:=λx v hv=>by obtain⟨s,hs,rfl⟩:=Jx.1 hv;obtain⟨k,q,rfl⟩:=hI _ s hs;rfl
  have hH:HoldsK (HQ R (λx=>x∈R.lst n g)) R.sz w b o d:=by
   intro t ht;have P7:t<n*R.sz:=by simpa[qc]using ht
   have hz:0<R.sz:=by
    rcases Kt R.sz with hz|hz
    .rw[hz]at P7;omega
    .exact hz
   have t1:t/R.sz<n:=Nat.div_lt_of_lt_mul Gg;have t2:=Nq t hz;have q:=We (enc:=HQ R (λx=>x∈R.lst n g)) (k:=R.sz) (d:=d) (i:=t/R.sz) (j:=t%R.sz) Dz t2;have hc:=cw (t/R.sz) (t%R.sz) t1 t2;rw[Lt,Nw]at hc;rw[Nw]at q;rw[q.2];refine⟨?_,?_⟩
   .simp only[World.cell?,hh,Option.isSome_none,J5,List.getElem?_toArray];exact hc
   .simp[World.frozen?,hh]
  have P8:CmpLays Tryz.prog fc cvs.toArray (HQ R (λx=>x∈R.lst n g)) R.sz (λx y=>BA (key x.1) (key y.1)) b o d.size w:=by
   intro q os dk hdk x y;have bq:w.heap.size<=(sortWorldK (HQ R (λx=>x∈R.lst n g)) R.sz w b o q dk os).heap.size:=b3b;have kp:Keeps w (sortWorldK (HQ R (λx=>x∈R.lst n g)) R.sz w b o q dk os) (held A (HA (.slice (some ⟨b,o,none⟩) n m))) (held A (HA (.slice (some ⟨b,o,none⟩) n m))) BT BT:=
    ⟨bq,λi hi b9=>b00 hi (λe=>b9 (.inr ⟨0,_,rfl,e▸KG c9⟩)),λ_ _ h=>h,λ_ _ h=>h⟩
   obtain⟨p,Z3,qp⟩:=tv x.1 x.2 y.1 y.2;have m7:DL (sortWorldK (HQ R (λx=>x∈R.lst n g)) R.sz w b o q dk os) (held A (HA (.slice (some ⟨b,o,none⟩) n m))) BT [.agg (R.sv x.1),.agg (R.sv y.1)] [.agg (HQ R (λx=>x∈R.lst n g) x).toArray,.agg (HQ R (λx=>x∈R.lst n g) y).toArray]:=
    ⟨rfl,λi s v hs hv=>by
      match i,hs,hv with
      |0,hs,hv=>
       simp at hs hv;subst hs hv;exact .agg _ (by simp[HQ]) (λj s v hs hv=>sv_D hI hs hv)
      |1,hs,hv=>
       simp at hs hv;subst hs hv;exact .agg _ (by simp[HQ]) (λj s v hs hv=>sv_D hI hs hv)⟩
   have hDC:DL (sortWorldK (HQ R (λx=>x∈R.lst n g)) R.sz w b o q dk os) (held A (HA (.slice (some ⟨b,o,none⟩) n m))) BT caps cvs:=⟨dt,λi s v hs hv=>(s9 i s v hs hv).keep kp⟩
   have:=pc.2 (held A (HA (.slice (some ⟨b,o,none⟩) n m))) (sortWorldK (HQ R (λx=>x∈R.lst n g)) R.sz w b o q dk os) _ _ p _
    (λi hi=>by
      rcases hi with hi|⟨j,z,hj,hz⟩
      .exact Kf (hA i hi) bq
      .unfold HA at hj;split at hj
       .cases hj;exact Kf (hv i hz).1 bq
       .cases hj)
    (λg t hg=>⟨(cd g t hg).1,(cd g t hg).2.keep kp⟩) (c7c m7 hDC) Z3 qp
   have e:(#[Value.agg (HQ R (λx=>x∈R.lst n g) x).toArray,Value.agg (HQ R (λx=>x∈R.lst n g) y).toArray]++cvs.toArray:Array Value)=([Value.agg (HQ R (λx=>x∈R.lst n g) x).toArray,Value.agg (HQ R (λx=>x∈R.lst n g) y).toArray]++cvs).toArray:=F7;rw[e];refine this.mono ?_;rintro e w' ⟨v,rfl,T6,bn⟩;cases T6;exact⟨rfl,b84 bn (λ_ h=>h)⟩
  have dv:=AnyQ.slices_SortFunc_total L R.sz aE zE (HQ R (λx=>x∈R.lst n g)) hk w7 (λx y=>BA (key x.1) (key y.1)) (d76 (λx:{x:β // x∈R.lst n g}=>key x.1)) fc cvs.toArray b o m d w eg P8 hH hb Dz
   (λx y h1 h2=>Subtype.ext (tw _ x.2 _ y.2 (Pu _ _ (by simp only[ltOf,L8]at h1 h2;have:=KQ (key x.1) (key y.1);omega))))
  rw[m8,qc]at dv;refine dv.mono ?_;rintro e w' ⟨rfl,q,os,rfl⟩;generalize hM:(d.toList.mergeSort λx y=> !(ltOf (λx y:{x:β // x∈R.lst n g}=>BA (key x.1) (key y.1))) y x)=M;have tx:M.map (·.1)=FD key (R.lst n g):=by
   rw[<-hM,<-b7m key _ tw];rw[List.map_mergeSort (s:=λx y=>decide (BA (key x) (key y)<=0))]
   .simp[d]
   .intro x _ y _;have:=KQ (key x.1) (key y.1);simp only[ltOf,<-decide_not,decide_eq_decide];omega
  have j5:M.length=n:=by have:=Mj List.length tx;rw[Kh,NM,bb]at this;exact this
  have hMi:∀i,i<n->(M.toArray[i]!).1=(FD key (R.lst n g)).getD i R.d:=λi hi=>by rw[<-tx,L6 M.toArray i G9];simp[j5,hi]
  refine⟨_,rfl,λh=>E9,λ_=>rfl,⟨_,m,rfl,fx,j9,fk,λi hi=>⟨hL _,?_⟩,.inr ⟨b,o,(putCells id o (flatK (HQ R (λx=>x∈R.lst n g)) R.sz M.toArray) vs.toArray).toList,c9,rfl,?_,?_,?_,?_⟩⟩,d6d (KG c9)⟩
  .rw[Jr];intro s hs;obtain⟨k,q,rfl⟩:=hI _ s hs;rfl
  .rw[b1w hh]
  .rw[Ls,b06];simpa using ho
  .intro v hv;exact Ds
  .intro i j s v hi hs hv;have hj:j<R.sz:=Gv;have q:=We (enc:=HQ R (λx=>x∈R.lst n g)) (k:=R.sz) (d:=M.toArray) (i:=i) (j:=j) G9 hj;rw[Lk,Lt,b0s q.1 (by simp;have:=bg i j hi hj;omega),q.2]at hv;cases hv;have hs':(R.sv (M.toArray[i]!).1)[j]?=some s:=by rw[hMi i hi];exact hs
   refine sv_D hI hs' ?_;have bi:j<((R.sv (M.toArray[i]!).1).map MK).length:=by rw[Kh,hL];exact hj
   unfold HQ;rw[L6 _ j bi];exact Jh bi
end
def XB:SV->Option (Prop×List Int)
 |.rel 1 1 f 0 0=>match f 0 with
  | [.rel 8 1 g 0 0]=>match g 0 with
    | [_,_,_,_,_,.sl 1 n h _,_,_]=>some ((∀j,g j=g 0)/\h=AC.row (AC.lst n h),AC.lst n h)
    |_=>none
  |_=>none
 |_=>none
abbrev C8:=SV×SV×SV×SV×SV×SV×SV×Option Nat
def capS:List Int->C8->SV
 |l,(a,b,c,d,e,f,g,h)=>.rel 1 1 (λ_=>[.rel 8 1 (λ_=>[a,b,c,d,e,.sl 1 l.length (AC.row l) h,f,g]) 0 0]) 0 0
theorem d5e{s:SV}{q:Prop}{l:List Int}(h:XB s=some (q,l))(k:q):∃z,s.le2 (capS l z):=by
 unfold XB at h;split at h
 .split at h
  .split at h
   .rename_i f _ g m _ a b c d e n o i x y r;cases h;obtain⟨t,u⟩:=k;refine⟨(a,b,c,d,e,x,y,i),?_⟩;simp only[capS,SV.le2,SV.le1,SV.le0,O5,RT.lst_length];intro j hj;rw[show j=0 from Dz,m];have v:g=λ_=>[a,b,c,d,e,.sl 1 n o i,x,y]:=Nn λj=>by rw[t j,r]
    rw[v,<-u]
   .cases h
  .cases h
 .cases h
def Xl:AH
 | [.agg [.int .i64 a,.int .i64 _],.agg [.int .i64 c,.int .i64 _],s]=>(XB s).map λq=>(q.1/\(0<=a/\a<q.2.length)/\0<=c/\c<q.2.length,.int .i64 (CC (q.2.getD a.toNat 0) (q.2.getD c.toNat 0)))
 |_=>none
def FSrt1:Fam:=⟨(Int×Int×Int×Int)×List Int×C8,λ((a,b,c,d),l,z)=>[.agg [.int .i64 a,.int .i64 b],.agg [.int .i64 c,.int .i64 d],capS l z],λ((a,_,c,_),l,_)=>(0<=a/\a<l.length)/\0<=c/\c<l.length,λ((a,_,c,_),l,_)=>.int .i64 (CC (l.getD a.toNat 0) (l.getD c.toNat 0))⟩
theorem pSrt1:PS 158 Xl:=by
 refine con [(39,Ro)] (by simpa using Xn) FSrt1 (λ_ _=>none) Xl ?_ ?_ Tryz.func158 E1 E1 E1 ?_
 .intro args pre s h e;unfold Xl at h;split at h
  .rename_i a b c d x;simp only[Jq]at h;obtain⟨⟨q,l⟩,hx,f⟩:=h;cases f;obtain⟨z,g⟩:=d5e hx e.1;exact⟨((a,b,c,d),l,z),⟨Ee,Ee,g,Jm⟩,e.2,rfl⟩
  .cases h
 .exact C1
 .rintro⟨⟨a,b,c,d⟩,l,x1,x2,x3,x4,x5,x6,x7,cp⟩ e;replace e:(0<=a/\a<l.length)/\0<=c/\c<l.length:=e;refine X0a _ ?_;(repeat' first|constructor|intro h)<;>refine Lm ?_
  all_goals(first|exact e.1|exact e.2|rfl|skip)
section
open Go.Sort Go.Proofs Go.Shelf
def PY(l:List Int)(x:Pa):List Int:=[l.getD x.a.toNat 0]
def c0c:KI:=λ_ d n g b=>match b with
 | [.clo f [c]]=>if f=158/\d=2 then(XB c).map λq=>(q.1/\CK.is n g/\n<=100000/\(∀x∈CK.lst n g,0<=x.a/\x.a<q.2.length)/\(∀x∈CK.lst n g,∀y∈CK.lst n g,PY q.2 x=PY q.2 y->x=y),CK.row (FD (PY q.2) (CK.lst n g)),false)else none
 |_=>none
theorem g0b:ES 157 c0c:=by
 refine f0a CK Tryz.sortPass rfl ⟨_,Tryz.func157,E1,E1⟩ (λw=>Tryz.isAgg262 w) (λw=>Tryz.sizeOf262 w) (λ_=>rfl) (λx s hs=> ?_) Xl pSrt1 (enters_of Tryz.func158 E1 rfl) c0c ?_
 .simp[CK]at hs;rcases hs with rfl|rfl
  .exact Cb
  .exact Cb
 .intro T sz n g rest pre g' r h;unfold c0c at h;split at h;rotate_left
  .cases h
  rename_i f c;split at h;rotate_left
  .cases h
  rename_i i;obtain⟨rfl,rfl⟩:=i;simp only[Jq]at h;obtain⟨⟨q,l⟩,hx,j⟩:=h;cases j;refine⟨rfl,rfl,[c],PY l,rfl,λd=>⟨d.2.1,d.2.2.1,λx k y m=> ?_,d.2.2.2.2,rfl⟩⟩;refine⟨q/\(0<=x.a/\x.a<l.length)/\0<=y.a/\y.a<l.length,?_,d.1,d.2.2.2.1 x k,d.2.2.2.1 y m⟩;show Xl [.agg [.int .i64 x.a,.int .i64 x.b],.agg [.int .i64 y.a,.int .i64 y.b],c]=_;simp only[Xl,hx,Ks,Iv,O5,SV.int.injEq];simp only[PY,BA];split
  .rename_i e;rw[e];simp[CC]
  .rfl
end
def JZ:List Int->Int
 | []=>0
 |a::r=>if a=0 then JZ r else a
theorem d7w:∀{l:List Int} {i:Nat},(∀j,j<i->l.getD j 0=0)->i<l.length->l.getD i 0≠0->JZ l=l.getD i 0
 | [],_,_,h,_=>Ec
 |a::r,0,_,_,hv=>by simp only[JZ];rw[Jj G1];rfl
 |a::r,i+1,h,hi,hv=>by
  have b:a=0:=by simpa using h 0 Dz
  simp only[JZ];rw[Ji b];have:=d7w (l:=r) (i:=i) (λj hj=>by simpa using h (j+1) Dz) Et G1;simpa using this
theorem c89:∀{l:List Int},(∀j,j<l.length->l.getD j 0=0)->JZ l=0
 | [],_=>rfl
 |a::r,h=>by
  have b:a=0:=by simpa using h 0 E2
  simp only[JZ];rw[Ji b];exact c89 (λj hj=>by simpa using h (j+1) Er)
def VD:AH
 | [x]=>match AC.as x with
   |some (n,f)=>some (AC.is n f/\n<=100000,.int .i64 (JZ (AC.lst n f)))
   |none=>none
 |_=>none
def FOrL:Fam:=⟨List Int,λl=>[.sl 1 l.length (AC.row l) none],λl=>l.length<=100000,λl=>.int .i64 (JZ l)⟩
def IOrL(l:List Int):Nat->Option Inv
 |3=>some {β:=Nat,ok:=λi=>i<=l.length/\∀j,j<i->l.getD j 0=0,st:=λi=>⟨[⟨8,none,.int .i64 i⟩,⟨7,none,.int .i64 l.length⟩,⟨6,none,.sl 1 l.length (AC.row l) none⟩,⟨3,none,.int .i64 0⟩],[]⟩,μ:=λi=>l.length-i}
 |_=>none
theorem pOrL:PS 37 VD:=by
 refine con [] E2 FOrL IOrL VD ?_ ?_ Tryz.func37 E1 E1 E1 ?_
 .intro args pre s h a;unfold VD at h;split at h
  .split at h
   .rename_i n f hx;cases h;exact⟨AC.lst n f,⟨JL (AC.as_le hx a.1),Jm⟩,by simp only[FOrL,RT.lst_length];exact a.2,rfl⟩
   .cases h
  .cases h
 .exact C0
 .rintro l a;replace a:l.length<=100000:=a;refine X0a _ ?_;(repeat' first|constructor|intro h)<;>refine Lm ?_
  refine⟨(0:Nat),⟨Jw _,λj d=>Dz⟩,?_,?_⟩
  .exact X0d
  .intro i g;obtain⟨dj,c⟩:=g;refine X0a _ ?_;(repeat' first|constructor|intro h)<;>refine Lm ?_
   all_goals(try simp only[Ir,Is]at*)
   all_goals(first
    |exact Ap
    |(exact(d7w c Dz E5).symm)
    |(refine⟨i+1,⟨Dz,λj d=> ?_⟩,Ed,?_⟩)
    |(exact(c89 (λj d=>c j Dz)).symm)
    |skip)
   .by_cases e:j=i
    .subst e;exact h
    .exact c j Dz
   .exact X0e
section
open Go.Sort Go.Proofs Go.Shelf
def Wu:AH
 | [.agg [.int .u8 p,.int .i64 a,.int .i64 _],.agg [.int .u8 q,.int .i64 c,.int .i64 _],s]=>(XB s).map λz=>(z.1/\(0<=a/\a<z.2.length)/\0<=c/\c<z.2.length,.int .i64 (JZ [CC p q,CC (z.2.getD a.toNat 0) (z.2.getD c.toNat 0)]))
 |_=>none
def FSrt2:Fam:=⟨(Int×Int×Int×Int×Int×Int)×List Int×C8,λ((p,a,b,q,c,d),l,z)=>[.agg [.int .u8 p,.int .i64 a,.int .i64 b],.agg [.int .u8 q,.int .i64 c,.int .i64 d],capS l z],λ((_,a,_,_,c,_),l,_)=>(0<=a/\a<l.length)/\0<=c/\c<l.length,λ((p,a,_,q,c,_),l,_)=>.int .i64 (JZ [CC p q,CC (l.getD a.toNat 0) (l.getD c.toNat 0)])⟩
theorem pSrt2:PS 160 Wu:=by
 refine con [(39,Ro),(84,d67),(37,VD)] (by simpa using⟨Xn,pCmp8,pOrL⟩) FSrt2 (λ_ _=>none) Wu ?_ ?_ Tryz.func160 E1 E1 E1 ?_
 .intro args pre s h e;unfold Wu at h;split at h
  .rename_i p a b q c d x;simp only[Jq]at h;obtain⟨⟨w,l⟩,hx,f⟩:=h;cases f;obtain⟨z,g⟩:=d5e hx e.1;exact⟨((p,a,b,q,c,d),l,z),⟨Ee,Ee,g,Jm⟩,e.2,rfl⟩
  .cases h
 .exact C1
 .rintro⟨⟨p,a,b,q,c,d⟩,l,x1,x2,x3,x4,x5,x6,x7,cp⟩ e;replace e:(0<=a/\a<l.length)/\0<=c/\c<l.length:=e;refine X0a _ ?_;(repeat' first|constructor|intro h)<;>refine Lm ?_
  all_goals(first
   |exact e.1
   |exact e.2
   |rfl
   |exact⟨λi j=>match i,j with
    |0,_=>rfl
    |1,_=>rfl,Dz⟩
   |skip)
def QP(l:List Int)(x:Lo):List Int:=[x.s,l.getD x.a.toNat 0]
theorem d7r(p q a b:Int):JZ [CC p q,CC a b]=BA [p,a] [q,b]:=by
 simp only[JZ,BA];by_cases e:p=q
 .subst e;rw[Ji rfl,show CC p p=0 by simp[CC],Ji rfl];by_cases c:a=b
  .subst c;simp[CC]
  .rw[Jj c];split<;>simp_all
 .rw[Jj e,Jj];unfold CC;split<;>(try split)<;>omega
def c16:KI:=λ_ d n g b=>match b with
 | [.clo f [c]]=>if f=160/\d=3 then(XB c).map λq=>(q.1/\CB.is n g/\n<=100000/\(∀x∈CB.lst n g,0<=x.a/\x.a<q.2.length)/\(∀x∈CB.lst n g,∀y∈CB.lst n g,QP q.2 x=QP q.2 y->x=y),CB.row (FD (QP q.2) (CB.lst n g)),false)else none
 |_=>none
theorem g3r:ES 159 c16:=by
 refine f0a CB Tryz.sortLoop rfl ⟨_,Tryz.func159,E1,E1⟩ (λw=>Tryz.isAgg138 w) (λw=>Tryz.sizeOf138 w) (λ_=>rfl) (λx s hs=> ?_) Wu pSrt2 (enters_of Tryz.func160 E1 rfl) c16 ?_
 .simp[CB]at hs;rcases hs with rfl|rfl|rfl
  .exact Cb
  .exact Cb
  .exact Cb
 .intro T sz n g rest pre g' r h;unfold c16 at h;split at h;rotate_left
  .cases h
  rename_i f c;split at h;rotate_left
  .cases h
  rename_i e;obtain⟨rfl,rfl⟩:=e;simp only[Jq]at h;obtain⟨⟨q,l⟩,hx,i⟩:=h;cases i;refine⟨rfl,rfl,[c],QP l,rfl,λd=>⟨d.2.1,d.2.2.1,λx j y k=> ?_,d.2.2.2.2,rfl⟩⟩;refine⟨q/\(0<=x.a/\x.a<l.length)/\0<=y.a/\y.a<l.length,?_,d.1,d.2.2.2.1 x j,d.2.2.2.1 y k⟩;show Wu [.agg [.int .u8 x.s,.int .i64 x.a,.int .i64 x.b],.agg [.int .u8 y.s,.int .i64 y.a,.int .i64 y.b],c]=_;simp only[Wu,hx,Ks,QP,d7r]
end
section
open Go.Sort Go.Proofs Go.Shelf
section
variable{α:Type} [Inhabited α] {enc:α->Value}{w:World}{b o m:Nat}{d:Array α}{os:Array Obj}
theorem f29{i:Nat}(hi:i<w.heap.size)(a:i≠b):(grow (Go.Sort.putRow enc (Sort.ahead w m) b o d) os).heap[i]?=w.heap[i]?:=by rw[heap_grow_old _ _ If];show (w.heap.modify b _)[i]?=_;rw[M8,Jj (Ne.symm a)]
theorem d7f{c:Array Value}{T:TypeId}{z:Nat×Nat}(h:w.heap[b]?=some (.cells c T z)):(grow (Go.Sort.putRow enc (Sort.ahead w m) b o d) os).heap[b]?=some (.cells (putCells enc o d c) T z):=by have hi:b<w.heap.size:=(K7.1 h).1;rw[heap_grow_old _ _ If];show (w.heap.modify b _)[b]?=_;rw[M8,Ji rfl,h];rfl
theorem g09:w.heap.size<=(grow (Go.Sort.putRow enc (Sort.ahead w m) b o d) os).heap.size:=by simp[grow,Go.Sort.putRow,mapBlock,Sort.ahead]
theorem fr_pr{X:Nat->Prop}(a:X b):Fr w.heap.size X w (grow (Go.Sort.putRow enc (Sort.ahead w m) b o d) os):=
 ⟨rfl,rfl,rfl,λ_=>Nat.le_add_right _ _,g09,λ_ c f=>f29 c (λe=>f (e▸a))⟩
end
def Vx(x:Int):List Int->List Int
 | []=>[x]
 |y::r=>if x<=y then x::y::r else y::Vx x r
def OU(l:List Int):List Int:=l.foldr Vx []
theorem b5i(x:Int):∀l,(Vx x l).Perm (x::l)
 | []=>.refl _
 |y::r=>by
  simp only[Vx];split
  .exact .refl _
  .exact((b5i x r).cons y).trans (.swap x y r)
theorem b1r:∀l,(OU l).Perm l
 | []=>.refl _
 |x::l=>(b5i x _).trans ((b1r l).cons x)
theorem b0h(l:List Int):(OU l).length=l.length:=(b1r l).length_eq
theorem d92(l:List Int)(x:Int):x∈OU l↔x∈l:=(b1r l).mem_iff
theorem b5p(x:Int):∀l,l.Pairwise (λa b=>a<=b)->(Vx x l).Pairwise (λa b=>a<=b)
 | [],_=>List.pairwise_singleton _ _
 |y::r,h=>by
  have d:=Ku.1 h;simp only[Vx];split
  .rename_i e;exact Ku.2 ⟨λz c=>by
    rcases Jv.1 c with rfl|c
    .exact e
    .exact Int.le_trans e (d.1 z c),h⟩
  .rename_i e;refine Ku.2 ⟨λz c=> ?_,b5p x r d.2⟩;rcases Jv.1 ((b5i x r).mem_iff.1 c)with rfl|c
   .omega
   .exact d.1 z c
theorem b4a:∀l,(OU l).Pairwise (λa b=>a<=b)
 | []=>List.Pairwise.nil
 |x::l=>b5p x _ (b4a l)
theorem c50(l:List Int):(l.mergeSort λx y=>decide (x<=y))=OU l:=by have f:=List.mergeSort_perm l (λx y=>decide (x<=y));refine List.Perm.eq_of_pairwise (le:=λa b=>a<=b) (λa b _ _ d e=>Int.le_antisymm d e) ?_ (b4a l) (f.trans (b1r l).symm);have:=List.pairwise_mergeSort (le:=λx y:Int=>decide (x<=y)) (λa b c d e=>by simp only[Ju]at*;omega) (λa b=>by simp only[Kp,Ju];omega) l;exact this.imp λh=>E6
def d9g:KI:=λ_ b n g a=>match a with
 | []=>if b=1 then some (AC.is n g/\n<=100000,AC.row (OU (AC.lst n g)),false)else none
 |_=>none
theorem xSortI:ES 161 d9g:=by
 refine⟨⟨_,Tryz.func161,E1,E1⟩,?_⟩;intro A w v T sz n g c rest d pre g' r hA f cd K L k M;unfold d9g at k;split at k;rotate_left
 .cases k
 split at k;rotate_left
 .cases k
 rename_i N;subst N;cases k;obtain⟨O,hn⟩:=M;obtain rfl:d=[]:=by
  have:=L.1;match d,this with
  | [],_=>rfl
 obtain⟨a,m,rfl,y,B,C,hl,E⟩:=K;rcases Kt n with F|F
 .subst F;have l:=AnyM.slices_Sort_int_none Tryz.sortInts a m w;refine l.mono ?_;rintro e P ⟨rfl,rfl⟩;refine⟨_,rfl,λh=>E9,λ_=>rfl,⟨a,m,rfl,y,B,C,λi hi=>absurd hi Dz,?_⟩,Fr.refl _ _ _⟩;rcases E with h|⟨b,o,vs,c9,rfl,hh,ho,h1,G⟩
  .exact .inl h
  .exact D6
 .rcases E with h|⟨b,o,vs,c9,rfl,hh,ho,h1,G⟩
  .omega
  have Q:b<w.heap.size:=(K7.1 hh).1;have u:(AC.lst n g).length=n:=RT.lst_length AC n g;have H:∀i,i<n->o+i<vs.length:=λi hi=>Dz;have R:∀i,i<n->vs[o+i]?=some (.int .i64 ((AC.lst n g).getD i 0)):=by intro i hi;have x:=H i hi;have I:=G i 0 (.int .i64 ((AC.lst n g).getD i 0)) (vs[o+i]) hi (by rw[O i hi];simp[RT.lst,hi];rfl) (by simp[Jh x]);rw[Jh x];generalize vs[o+i]=z at I⊢;cases I;rfl
  have S:Holds (Value.int .i64) w b o (AC.lst n g).toArray:=by
   intro t U;have J:t<n:=by simpa[u]using U
   refine⟨?_,?_⟩
   .simp only[World.cell?,hh,Option.isSome_none,J5,List.getElem?_toArray];rw[R t J];simp[u,J]
   .simp[World.frozen?,hh]
  have l:=AnyM.slices_Sort_int Tryz.sortInts b o m (AC.lst n g) w S Q Dz;rw[u,c50]at l;refine l.mono ?_;rintro e P ⟨rfl,q,os,rfl⟩;have j5:(OU (AC.lst n g)).length=n:=by rw[b0h,u]
  refine⟨_,rfl,λh=>E9,λ_=>rfl,⟨_,m,rfl,y,B,C,λi hi=>⟨rfl,rfl⟩,.inr ⟨b,o,(putCells (Value.int .i64) o (OU (AC.lst n g)).toArray vs.toArray).toList,c9,rfl,?_,?_,?_,?_⟩⟩,fr_pr (KG c9)⟩
  .first
   |(rw[d7f hh];done)
   |(rw[d7f hh];rfl)
  .simp[putCells];omega
  .intro v f;simp only[putCells,Array.toList_mapIdx,List.mem_mapIdx]at f;obtain⟨i,hi,rfl⟩:=f;split
   .rfl
   .exact h1 _ E2
  .intro i j s v hi hs f;have V:j=0:=by
    have:=(Jk.1 hs).1;have:(AC.row (OU (AC.lst n g)) i).length=1:=rfl;omega
   subst V;have x:=H i hi;simp only[putCells,Array.toList_mapIdx,List.getElem?_mapIdx,Nat.mul_one,Mp,Jh x,Ks,Ka]at f;rw[Ji ⟨Dz,by simp[j5];omega⟩]at f;subst f;have e:s=.int .i64 ((OU (AC.lst n g)).getD i 0):=by have:(AC.row (OU (AC.lst n g)) i)[0]?=some (.int .i64 ((OU (AC.lst n g)).getD i 0)):=rfl;rw[this]at hs;exact(Km hs).symm
   subst e;rw[show o+i-o=i from Dz,L6 _ i G9];simp[j5,hi];exact .int
end
def b0y:AH
 | [.sl 2 n f _]=>some (n<=100000/\∀i,i<n->(f i).all SV.flat0=true,.sl 2 n f none)
 | [.con (.slice none 0 0)]=>some (True,.sl 2 0 (λ_=>[]) none)
 |_=>none
def c59:Fam:=⟨Nat×(Nat->List SV),λ(n,f)=>[.sl 2 n f none],λ(n,f)=>n<=100000/\∀i,i<n->(f i).all SV.flat0=true,λ(n,f)=>.sl 2 n f none⟩
theorem c6k:PF 163 b0y:=by
 refine conF {} ⟨E2,E2,E2⟩ c59 (λ_ _=>none) b0y ?_ ?_ Tryz.func163 E1 E1 E1 ?_
 .intro args pre s h hp;unfold b0y at h;split at h
  .rename_i n f c;cases h;exact C3
  .cases h;exact Ce
  .cases h
 .exact C0
 .rintro⟨n,f⟩ ⟨hp,dw⟩;refine X0a _ ?_;(repeat' first|constructor|intro h)<;>refine Lm ?_
  all_goals(first
   |exact Ah
   |(intro i hi;simp;done)
   |skip)
def b0w:AH
 | [.sl 3 n f _]=>some (n<=100000/\∀i,i<n->(f i).all SV.flat0=true,.sl 3 n f none)
 | [.con (.slice none 0 0)]=>some (True,.sl 3 0 (λ_=>[]) none)
 |_=>none
def c5b:Fam:=⟨Nat×(Nat->List SV),λ(n,f)=>[.sl 3 n f none],λ(n,f)=>n<=100000/\∀i,i<n->(f i).all SV.flat0=true,λ(n,f)=>.sl 3 n f none⟩
theorem c4u:PF 165 b0w:=by
 refine conF {} ⟨E2,E2,E2⟩ c5b (λ_ _=>none) b0w ?_ ?_ Tryz.func165 E1 E1 E1 ?_
 .intro args pre s h hp;unfold b0w at h;split at h
  .rename_i n f c;cases h;exact C3
  .cases h;exact Ce
  .cases h
 .exact C0
 .rintro⟨n,f⟩ ⟨hp,dw⟩;refine X0a _ ?_;(repeat' first|constructor|intro h)<;>refine Lm ?_
  all_goals(first
   |exact Ah
   |(intro i hi;simp;done)
   |skip)
def b1k:AH
 | [.sl 1 n f _]=>some (n<=100000/\∀i,i<n->(f i).all SV.flat0=true,.sl 1 n f none)
 | [.con (.slice none 0 0)]=>some (True,.sl 1 0 (λ_=>[]) none)
 |_=>none
def d2s:Fam:=⟨Nat×(Nat->List SV),λ(n,f)=>[.sl 1 n f none],λ(n,f)=>n<=100000/\∀i,i<n->(f i).all SV.flat0=true,λ(n,f)=>.sl 1 n f none⟩
theorem d2f:PF 121 b1k:=by
 refine conF {} ⟨E2,E2,E2⟩ d2s (λ_ _=>none) b1k ?_ ?_ Tryz.func121 E1 E1 E1 ?_
 .intro args pre s h hp;unfold b1k at h;split at h
  .rename_i n f c;cases h;exact C3
  .cases h;exact Ce
  .cases h
 .exact C0
 .rintro⟨n,f⟩ ⟨hp,dw⟩;refine X0a _ ?_;(repeat' first|constructor|intro h)<;>refine Lm ?_
  all_goals(first
   |exact Ah
   |(intro i hi;simp;done)
   |skip)
structure Ky where
 a:Cl
 b:Cl
 deriving DecidableEq
def HT:RT Ky:=⟨6,λk=>[.int .i64 k.a.x,.int .i64 k.a.y,.int .u8 k.a.q,.int .i64 k.b.x,.int .i64 k.b.y,.int .u8 k.b.q],λl=>match l with
 | [.int _ a,.int _ b,.int _ c,.int _ d,.int _ e,.int _ f]=>⟨⟨a,b,c⟩,⟨d,e,f⟩⟩
 |_=>⟨⟨0,0,0⟩,⟨0,0,0⟩⟩,⟨⟨0,0,0⟩,⟨0,0,0⟩⟩,λ_=>rfl⟩
def MG(s:Sm):Ky:=⟨s.a,s.b⟩
theorem d9d(S:List Sm)(i:Nat):KX S i=HT.row (S.map MG) i:=by
 have:(S.map MG).getD i HT.d=MG (S.getD i BM):=by simp only[Jg,K9];cases S[i]?<;>rfl
 unfold KX RT.row;rw[this];rfl
def c9t(b:Bd)(S:List Sm)(K:List Ky):List Blk:=[.cells 208 [.int .i64 b.p.W,.int .i64 b.p.H,.sl 3 b.p.l.length (Eo b.p.l) none,.sl 3 b.pl.length (AG.row b.pl) none,.sl 3 b.im.length (CJ.row b.im) none,.osl 2,.omp 3,.osl 4],
 .fam 135 [(262,2),(138,3),(3,1)] S.length none (λi=>KU (S.getD i BM)),
 .row 3 1 b.ht.length (AC.row b.ht) none,.pmap (.ints [.i64,.i64,.u8,.i64,.i64,.u8]) 1 (EE S) (EC S),.row 213 6 K.length (HT.row K) none]
def g0f:List Blk->Option (Prop×Bd×List Sm×List Ky)
 | [.cells l [.int .i64 W,.int .i64 H,m,pl,o,.osl k1,.omp k2,.osl k3],.fam p r b s F,.row t u c d _,.pmap K k4 a BU,.row v w e g _]=>
   match Po m,AG.as pl,CJ.as o with
   |some (n,f),some (h,f2),some (j,k)=>if(l=208/\k1=2/\k2=3/\k3=4/\t=3/\u=1)/\(K=.ints [.i64,.i64,.u8,.i64,.i64,.u8]/\k4=1/\v=213/\w=6)/\p=135/\r=[(262,2),(138,3),(3,1)]/\s=none then
    some (((MI n f/\n<=100000)/\AG.is h f2/\CJ.is j k/\AC.is c d)/\HT.is e g/\(∀q,a q=EE (LU b F) q)/\(∀q,a q=true->BU q=EC (LU b F) q)/\∀i,i<b->(F i).le (KU (UK (F i))),
    ⟨⟨W,H,FX n f⟩,AG.lst h f2,CJ.lst j k,AC.lst c d⟩,LU b F,HT.lst e g)
    else none
   |_,_,_=>none
 |_=>none
theorem f20{own:List Blk}{q:Prop}{b:Bd}{S:List Sm}{K:List Ky}(h:g0f own=some (q,b,S,K))(d:q):own.length=5/\TL 5 own (c9t b S K)/\b.p.l.length<=100000:=by
 unfold g0f at h;split at h;rotate_left
 .cases h
 rename_i T1 W H cr pl im k1 k2 k3 T4 Ts a bz F T2 z2 e g c1 KK k4 has BU T3 z3 j k c2;split at h;rotate_left
 .cases h
 rename_i n f n2 f2 n3 f3 h1 h2 h3;split at h;rotate_left
 .cases h
 rename_i m;obtain⟨⟨rfl,rfl,rfl,rfl,rfl,rfl⟩,⟨rfl,rfl,rfl,rfl⟩,rfl,rfl,rfl⟩:=m;simp only[Iv]at h;obtain⟨rfl,rfl,rfl,rfl⟩:=h;obtain⟨⟨q1,q2,q3,o⟩,r,s,t,u⟩:=d;refine⟨rfl,⟨⟨?_,?_⟩,⟨?_,?_,rfl,?_⟩,⟨?_,?_,?_,?_⟩,⟨?_,s,t⟩,⟨?_,?_,?_,?_⟩,Jm⟩,Hn⟩
 .exact Cc
 .exact Dp
 .rw[Ji ⟨rfl,rfl,rfl⟩];trivial
 .exact(b3z a F).symm
 .intro i c;have:(LU a F).getD i BM=UK (F i):=by simp[LU,c]
  show (F i).le (KU ((LU a F).getD i BM));rw[this];exact u i c
 .exact Cc
 .exact(RT.lst_length AC e g).symm
 .exact Jm
 .exact SH (AC.row_lst o)
 .rw[Ji ⟨rfl,rfl,E4⟩];trivial
 .exact Cc
 .exact(RT.lst_length HT j k).symm
 .exact Jm
 .exact SH (HT.row_lst r)
def MJ(b:Bd)(s:Sm):Sm:={s with ps:=FD (PY b.ht) s.ps,ls:=FD (QP b.ht) s.ls,en:=OU s.en}
def smSV(s:Sm):SV:=.agg [.int .i64 s.a.x,.int .i64 s.a.y,.int .u8 s.a.q,.int .i64 s.b.x,.int .i64 s.b.y,.int .u8 s.b.q,.sl 2 s.ps.length (CK.row s.ps) (some s.ps.length),.sl 3 s.ls.length (CB.row s.ls) (some s.ls.length),.sl 1 s.en.length (AC.row s.en) (some s.en.length)]
def d15(b:Bd)(s:Sm):Prop:=(s.ps.length<=100000/\s.ls.length<=100000/\s.en.length<=100000)/\((∀x∈s.ps,0<=x.a/\x.a<b.ht.length)/\∀x∈s.ls,0<=x.a/\x.a<b.ht.length)/\(∀x∈s.ps,∀y∈s.ps,PY b.ht x=PY b.ht y->x=y)/\∀x∈s.ls,∀y∈s.ls,QP b.ht x=QP b.ht y->x=y
theorem d0t(b:Bd)(s:Sm):CZ (MJ b s)=CZ s:=rfl
theorem b40(b:Bd)(S:List Sm)(i:Nat):(S.set i (MJ b (S.getD i BM))).map CZ=S.map CZ:=b2a _ _ _ (d0t b _)
theorem d1f(b:Bd)(S:List Sm)(i:Nat):∀q,EE S q=EE (S.set i (MJ b (S.getD i BM))) q:=λq=>by rw[Ug,Ug,b40]
theorem d1r(b:Bd)(S:List Sm)(i:Nat):∀q,EE S q=true->EC S q=EC (S.set i (MJ b (S.getD i BM))) q:=λq _=>by rw[XO,XO,b40]
theorem d1k(b:Bd)(S:List Sm)(i:Nat):∀j,j<S.length->KX S j=KX (S.set i (MJ b (S.getD i BM))) j:=λj a=>c2u (b40 b S i).symm j a
theorem d1j(b:Bd)(S:List Sm)(i:Nat):S.length=(S.set i (MJ b (S.getD i BM))).length:=E2
def b4z:HK:=λa own=>match a with
 | [.own 0 0,.fp b 1 i 0]=>(g0f own).map λq=>⟨q.1/\b=true/\i<q.2.2.1.length/\d15 q.2.1 (q.2.2.1.getD i BM),smSV (MJ q.2.1 (q.2.2.1.getD i BM)),c9t q.2.1 (q.2.2.1.set i (MJ q.2.1 (q.2.2.1.getD i BM))) q.2.2.2,[1]⟩
 |_=>none
def f2d:FamH:=⟨(Bd×List Sm×List Ky)×Nat,λ(_,i)=>[.own 0 0,.fp true 1 i 0],λ((b,S,K),_)=>c9t b S K,λ((b,S,_),i)=>b.p.l.length<=100000/\i<S.length/\d15 b (S.getD i BM),λ((b,S,_),i)=>smSV (MJ b (S.getD i BM)),λ((b,S,K),i)=>c9t b (S.set i (MJ b (S.getD i BM))) K,[1]⟩
theorem f52:HS 113 b4z:=by
 refine JO {l:=[(162,b2m),(164,b2k),(120,Xd)],fs:=[(163,b0y),(165,b0w),(121,b1k)],fsok:=by simpa using⟨c6k,c4u,d2f⟩,x:=[(157,c0c),(159,c16),(161,d9g)],G:={g0:=[.focus 1],gx:=λ_=>[.unfocus 1]}} ⟨by simpa using⟨d7n,d53,c1d⟩,by simpa using⟨g0b,g3r,xSortI⟩,E2⟩ f2d (λ_ _=>none) b4z ?_ ?_ ?_ Tryz.func113 E1 E1 E1 ?_
 .intro args own r h a;unfold b4z at h;split at h
  .rename_i ok i;simp only[Jq]at h;obtain⟨⟨q,k,S,K⟩,hx,rfl⟩:=h;obtain⟨m,n,o⟩:=f20 hx a.1;obtain⟨_,rfl,a⟩:=a;exact⟨((k,S,K),i),⟨Ea,Ea,Jm⟩,m,n,⟨o,a⟩,rfl,rfl,rfl⟩
  .cases h
 .exact Bz
 .intro i;show 5<=5;decide
 .rintro⟨⟨b,S,K⟩,i⟩ μ ⟨hp0,c,⟨d,f,g⟩,⟨s,t⟩,u,v⟩;refine X0a _ ?_;(repeat' first|constructor|intro h)<;>refine Lm ?_
  all_goals(try simp only[RT.lst_row]at*)
  all_goals(first
   |exact⟨Jm,c⟩
   |exact⟨⟨⟨λ_=>Jm,Jm⟩,RT.is_row CK _,d,s,u⟩,λ_ _=>rfl⟩
   |exact⟨⟨⟨λ_=>Jm,Jm⟩,RT.is_row CB _,f,t,v⟩,λ_ _=>rfl⟩
   |exact⟨RT.is_row AC _,g⟩
   |exact⟨d,λ_ _=>rfl⟩
   |exact⟨f,λ_ _=>rfl⟩
   |exact⟨g,λ_ _=>rfl⟩
   |exact d
   |exact f
   |exact g
   |exact A2
   |exact(NM _ _).symm
   |exact Mj some (NM _ _).symm
   |exact(b0h _).symm
   |exact Mj some (b0h _).symm
   |exact d1f _ _ _
   |exact d1r _ _ _
   |exact d1k _ _ _
   |exact d1j _ _ _
   |(intro j hj
     by_cases e:j=i
     .subst e;rw[Ji rfl,b1f c,Ji rfl];exact⟨rfl,(NM _ _).symm,λ_ _=>rfl,(NM _ _).symm,λ_ _=>rfl,(b0h _).symm,λ_ _=>rfl,Jm⟩
     .rw[Jj e,b1f c,Jj e];exact VK _)
   |skip)
def HL(q:List Int)(x:Cr):Bool:=decide (q=[x.c,x.e])
def EU(l:List Cr)(q:List Int):Bool:=l.any (HL q)
def b4v:AH
 | [x]=>match Pl x with
   |some (a,p)=>some (a/\∀c∈p.l,AD .u8 c.e,.mp (.ints [.i64,.u8]) false (EU p.l) (λq=>[.bool (EU p.l q)]))
   |none=>none
 |_=>none
def f2f:Fam:=⟨Pt,λp=>[KC p],λp=>p.l.length<=100000/\∀c∈p.l,AD .u8 c.e,λp=>.mp (.ints [.i64,.u8]) false (EU p.l) (λq=>[.bool (EU p.l q)])⟩
def f4b(p:Pt):Nat->Option Inv
 |3=>some {β:=Nat,ok:=λi=>i<=p.l.length,st:=λi=>⟨[⟨13,none,.int .i64 i⟩,⟨12,none,.int .i64 p.l.length⟩,⟨11,none,.sl 3 p.l.length (Eo p.l) none⟩,⟨3,none,.omp 1⟩,⟨2,none,.con (.map none)⟩],[.cells 34 [.int .i64 p.W,.int .i64 p.H,.sl 3 p.l.length (Eo p.l) none],.map (.ints [.i64,.u8]) false (EU (p.l.take i)) (λ_=>[.bool true])]⟩,μ:=λi=>p.l.length-i}
 |_=>none
theorem b83{l:List Cr}{i:Nat}(hi:i<l.length)(q:List Int):(decide (q=[(l.getD i d0).c,(l.getD i d0).e])||EU (l.take i) q)=EU (l.take (i+1)) q:=by
 have:l.take (i+1)=l.take i++[l.getD i d0]:=by rw[Lz];congr 1;simp[hi]
 unfold EU;rw[this,O2];simp[HL,Bool.or_comm]
theorem f57:PS 187 b4v:=by
 refine con [] E2 f2f f4b b4v ?_ ?_ Tryz.func187 E1 E1 E1 ?_
 .intro args pre s h hp;unfold b4v at h;split at h
  .split at h
   .rename_i a p hx;cases h;exact D5
   .cases h
  .cases h
 .exact C0
 .rintro(p:Pt) hp;replace hp:p.l.length<=100000/\∀c∈p.l,AD .u8 c.e:=hp;refine X0a _ ?_;(repeat' first|constructor|intro h)<;>refine Lm ?_
  refine⟨(0:Nat),Jw _,?_,?_⟩
  .refine X0a _ ?_;(repeat' first|constructor|intro h)<;>refine Lm ?_
   all_goals first|exact A8|(intro q;first|rfl|(intro f;exact absurd f E2))|skip
  .intro i d;replace d:i<=p.l.length:=d;refine X0a _ ?_;(repeat' first|constructor|intro h)<;>refine Lm ?_
   all_goals(first
    |(have q:i<p.l.length:=by simpa using h
      first
      |exact Ap
      |refine⟨i+1,q,Dz,?_⟩)
    |(have q:p.l.length<=i:=by simpa using h
      intro u;first
      |(rw[Lq q];done)
      |(rw[Lq q];intro w;rw[w]))
    |skip)
   all_goals refine X0a _ ?_;(repeat' first|constructor|intro h)<;>refine Lm ?_
   all_goals first|exact Az|(intro u;have q:i<p.l.length:=E6;first|exact b83 q u|(intro _;cases decide (u=[(p.l.getD (i:Int).toNat d0).c,(p.l.getD (i:Int).toNat d0).e])<;>rfl))|skip
def JA(a b:Mv):Mv:=⟨OG a.t a.x a.y b.t b.x b.y,RJ a.t a.x a.y b.t b.x b.y,QV a.t a.x a.y b.t b.x b.y⟩
def CD(k C:Int):Mv:=⟨keep (AQ k C) (DZ k),keep (AQ k C) (GQ k C),keep (AQ k C) (GS k C)⟩
def ED(W H i e:Int):List Int:=[EI W H i e,FI W H i e]
def KF(W H:Int)(has:List Int->Bool)(m:Mv)(i e:Int):Mv:=
 bif has (ED W H i e)then JA (CD (VB W H (EI W H i e) (FI W H i e)) (Vm W H (EI W H i e) (FI W H i e))) m else m
def c1g:AH
 | [.int .i64 i,.int .u8 e,.rel 3 1 g 0 0,.rel 1 1 b 0 0,.rel 1 1 c 0 0]=>match g 0,b 0,c 0 with
   | [.int .i64 W,.int .i64 H,_],[.mp (.ints [.i64,.u8]) false a val],[.sl 3 m h _]=>
     some ((0<=e/\0<=i/\i<m)/\h=AG.row (AG.lst m h)/\(∀q,val q=[.bool (a q)])/\(∀x∈AG.lst m h,0<=x.t/\x.t<=255),
      .agg (AG.sv (KF W H a ((AG.lst m h).getD i.toNat AG.d) i e)))
   |_,_,_=>none
 |_=>none
def d3f:Fam:=⟨(Int×Int×Int×Int)×SV×(List Int->Bool)×List Mv×Option Nat,
 λ((i,e,W,H),b,a,L,c)=>[.int .i64 i,.int .u8 e,.rel 3 1 (λ_=>[.int .i64 W,.int .i64 H,b]) 0 0,.rel 1 1 (λ_=>[.mp (.ints [.i64,.u8]) false a (λq=>[.bool (a q)])]) 0 0,.rel 1 1 (λ_=>[.sl 3 L.length (AG.row L) c]) 0 0],
 λ((i,e,_,_),_,_,L,_)=>(0<=e/\0<=i/\i<L.length)/\∀x∈L,0<=x.t/\x.t<=255,
 λ((i,e,W,H),_,a,L,_)=>.agg (AG.sv (KF W H a (L.getD i.toNat AG.d) i e))⟩
theorem g1w:PS 188 c1g:=by
 refine con [(134,UC),(189,b1u),(20,SM),(24,Rd)] (by simpa using⟨f1s,d2r,g42,g14⟩) d3f (λ_ _=>none) c1g ?_ ?_ Tryz.func188 E1 E1 E1 ?_
 .intro args pre s h b;unfold c1g at h;split at h
  .split at h
   .rename_i i e g g2 g3 _ _ _ W H f a val m l c n o r;cases h;obtain⟨u,v,w,y⟩:=b;have z:val=λq=>[.bool (a q)]:=Nn w;refine⟨((i,e,W,H),f,a,AG.lst m l,c),?_,⟨by rw[RT.lst_length];exact u,y⟩,rfl⟩;simp only[d3f,BK,SV.le2,SV.le1,SV.le0,L1,O5,and_true,RT.lst_length];refine⟨λj k=> ?_,λj k=> ?_,λj k=> ?_⟩
    .rw[show j=0 from Dz,n]
    .rw[show j=0 from Dz,o,z]
    .rw[show j=0 from Dz,r,<-v]
   .cases h
  .cases h
 .exact Cf
 .rintro⟨⟨i,e,W,H⟩,f,a,L,c⟩ b;replace b:(0<=e/\0<=i/\i<L.length)/\∀x∈L,0<=x.t/\x.t<=255:=b;refine X0a _ ?_;(repeat' first|constructor|intro h)<;>refine Lm ?_
  all_goals(have A:0<=FI W H i e:=by(unfold FI;split<;>omega))
  all_goals(first
   |exact b.1.1
   |exact b.1.2
   |exact A
   |(intro q;rw[q];rfl)
   |(have q:a (ED W H i e)=false:=by simpa[ED]using h
     unfold KF;rw[q,cond_false])
   |(have q:a (ED W H i e)=true:=by simpa[ED]using h
     unfold KF;rw[q,cond_true];rfl)
   |(have m:L.getD i.toNat AG.d∈L:=by simp[show i.toNat<L.length from Dz]
     refine⟨?_,b.2 _ m⟩;unfold keep DZ;split<;>omega)
   |(have m:L.getD i.toNat AG.d∈L:=by simp[Jg,show i.toNat<L.length from Dz]
     refine⟨?_,b.2 _ m⟩;unfold keep DZ;grind)
   |skip)
theorem nv_le{W H i e:Int}(hs:AV W H=0)(c:0<=e)(h:AR W H i e=0):0<=AE W H i e/\AE W H i e<4*(W*H):=by
 have b:=b3u h;have hq:=d4k (X:=BV W H i) (Y:=BW W H i) (UU W H i).1 c;unfold AR at h;rw[Ji b]at h;split at h
 .rename_i d;unfold AE;rw[Ji b,Ji d];unfold PP;rw[Ji h];unfold LK at h;rw[Ji hs]at h;split at h
  .rename_i a;have:=g10 (X:=IC (BV W H i) (BW W H i) (BZ W H i) e) (Y:=IH (BV W H i) (BW W H i) (BZ W H i) e) hs a.2.1 a.2.2.1 a.2.2.2.1 a.2.2.2.2;omega
  .cases h
 .cases h
theorem c7z{t x y u z w:Int}(b:0<=t)(c:0<=u):0<=OG t x y u z w/\OG t x y u z w<=255:=by
 unfold OG keep;split
 .rename_i h;unfold Gl at h;split at h
  .rename_i a;have:=cT_le b (Sv a.1).1 c (Sv a.2).1;omega
  .cases h
 .omega
theorem g3v(k C:Int):0<=(CD k C).t/\(CD k C).t<=255:=by simp only[CD];unfold keep DZ;grind
theorem c3g{W H:Int}{has:List Int->Bool}{m:Mv}{i e:Int}(a:0<=m.t/\m.t<=255):0<=(KF W H has m i e).t/\(KF W H has m i e).t<=255:=by
 unfold KF;cases has (ED W H i e)
 .exact a
 .exact c7z (g3v _ _).1 a.1
theorem b2z{l:List Bool}:∀{n:Nat},n<l.length->l.getD n false=false->(l.set n true).count false+1=l.count false:=by
 induction l with
 |nil=>intro n h;simp at h
 |cons b l a=>
  intro n h hb;match n with
  |0=>
   simp at hb;subst hb;simp
  |n+1=>
   have:=a (n:=n) E6 Gj;cases b<;>simp[]<;>omega
theorem b95{l:List Mv}{n:Nat}{m:Mv}{q:Mv->Prop}(a:∀x∈l,q x)(b:q m):∀x∈l.set n m,q x:=by
 intro x hx;rcases Mn hx with hx|rfl
 .exact a x hx
 .exact b
def vM(m:Mv):Prop:=0<=m.t/\Do m.t m.x m.y=0
def vC(c:Cl):Prop:=(-4096<=c.x/\c.x<=4096)/\(-4096<=c.y/\c.y<=4096)/\0<=c.q/\c.q<=3
def EA(m:Mv)(c:Cl):Cl:=⟨MB m.t m.x m.y c.x c.y,MV m.t m.x m.y c.x c.y,LJ m.t c.q⟩
def AO(c:Cl)(e:Int):Cl:=⟨EP c.q e+c.x,ER c.q e+c.y,EY c.q e⟩
theorem GJ{m:Mv}(h:vM m):m.t=0\/m.t=1\/m.t=2\/m.t=3\/m.t=4\/m.t=5\/m.t=6\/m.t=7:=by
 obtain⟨h0,a⟩:=h;unfold Do at a;split at a
 .omega
 .omega
theorem QI{m:Mv}(h:vM m):(-16384<=m.x/\m.x<=16384)/\(-16384<=m.y/\m.y<=16384)/\(m.x+m.y)%2=0:=by
 obtain⟨h0,a⟩:=h;unfold Do at a;split at a
 .omega
 .omega
theorem ET{q:Int}(h:0<=q/\q<=3):q=0\/q=1\/q=2\/q=3:=Dz
theorem HI{e:Int}(h:0<=e/\e<3):e=0\/e=1\/e=2:=Dz
def AM(t:Int)(a b:Int):Int×Int:=if t=0 then(a,b)else if t=1 then(-b,a)else if t=2 then(-a,-b)else if t=3 then(b,-a)else if t=4 then(-a,b)else if t=5 then(-b,-a)else if t=6 then(a,-b)else(b,a)
theorem b4j{t a b:Int}(h:t=0\/t=1\/t=2\/t=3\/t=4\/t=5\/t=6\/t=7):KP t a b=(AM t a b).1/\KR t a b=(AM t a b).2:=by rcases h with rfl|rfl|rfl|rfl|rfl|rfl|rfl|rfl<;>simp[KP,KR,AM,tA,tB,tC,tD,tb]
theorem po_eq{m:Mv}{a b:Int}(h:vM m)(ha: -9000<=a/\a<=9000)(hb: -9000<=b/\b<=9000):OZ m.t m.x m.y a b=(AM m.t a b).1+2*m.x/\OQ m.t m.x m.y a b=(AM m.t a b).2+2*m.y:=by
 have h1:=QI h;have c:=@b4j m.t a b (GJ h);have e:Qk m.t m.x m.y a b=0:=by unfold Qk;rw[Ji ⟨h.2,by unfold KJ;rw[if_pos];omega⟩,if_pos];rw[c.1,c.2];unfold KJ;rw[Ji];rcases GJ h with e|e|e|e|e|e|e|e<;>simp only[AM,e]<;>simp<;>omega
 unfold OZ OQ keep;rw[Ji e,Ji e,c.1,c.2];exact C7
theorem d0w{p:Int}(h:p%2=1):RS p=(p-1)/2:=by unfold RS;rw[h,Int.tdiv_eq_ediv];split<;>omega
def sq(t:Int)(X Y:Int):Int×Int:=if t=0 then(X,Y)else if t=1 then(-Y-1,X)else if t=2 then(-X-1,-Y-1)else if t=3 then(Y,-X-1)else if t=4 then(-X-1,Y)else if t=5 then(-Y-1,-X-1)else if t=6 then(X,-Y-1)else(Y,X)
theorem mv_sq{m:Mv}{X Y:Int}(h:vM m)(hx: -4200<=X/\X<=4200)(hy: -4200<=Y/\Y<=4200):MB m.t m.x m.y X Y=(sq m.t X Y).1+m.x/\MV m.t m.x m.y X Y=(sq m.t X Y).2+m.y:=by have a:=@po_eq m (2*X+1) (2*Y+1) h Dz Dz;unfold MB MV;rw[a.1,a.2];rcases GJ h with e|e|e|e|e|e|e|e<;>simp only[AM,sq,e]<;>simp<;>(rw[d0w Dz,d0w Dz];omega)
def tq(t:Int)(q:Int):Int:=tb (if t=0 then [0,1,2,3]else if t=1 then [1,2,3,0]else if t=2 then [2,3,0,1]else if t=3 then [3,0,1,2]else if t=4 then [0,3,2,1]else if t=5 then [1,0,3,2]else if t=6 then [2,1,0,3]else [3,2,1,0]) q.toNat
theorem mvQ_tq{t q:Int}(h:t=0\/t=1\/t=2\/t=3\/t=4\/t=5\/t=6\/t=7)(a:0<=q/\q<=3):LJ t q=tq t q:=by rcases h with rfl|rfl|rfl|rfl|rfl|rfl|rfl|rfl<;>rcases ET a with rfl|rfl|rfl|rfl<;>rfl
theorem JR{m:Mv}{c:Cl}(h:vM m)(a:(-4200<=c.x/\c.x<=4200)/\(-4200<=c.y/\c.y<=4200)/\0<=c.q/\c.q<=3):EA m c=⟨(sq m.t c.x c.y).1+m.x,(sq m.t c.x c.y).2+m.y,tq m.t c.q⟩:=by have b:=mv_sq h a.1 a.2.1;unfold EA;rw[b.1,b.2,mvQ_tq (GJ h) a.2.2]
theorem XP{c:Cl}(h:vC c):(-4200<=c.x/\c.x<=4200)/\(-4200<=c.y/\c.y<=4200)/\0<=c.q/\c.q<=3:=by unfold vC at h;omega
theorem Cl.ext'{a b:Cl}(h1:a.x=b.x)(h2:a.y=b.y)(h3:a.q=b.q):a=b:=Ig
theorem d30{m:Mv}{c d:Cl}(h:vM m)(g:vC c)(i:vC d)(e:EA m c=EA m d):c=d:=by
 rw[JR h (XP g),JR h (XP i)]at e;simp only[Cl.mk.injEq]at e;obtain⟨j,k,f⟩:=e;have l:c.q=d.q:=by rcases GJ h with e|e|e|e|e|e|e|e<;>simp only[e,tq]at f<;>rcases ET g.2.2 with a|a|a|a<;>rcases ET i.2.2 with b|b|b|b<;>rw[a,b]at f⊢ <;>revert f<;>decide
 refine Cl.ext' ?_ ?_ l<;>(rcases GJ h with e|e|e|e|e|e|e|e<;>simp only[e,sq]at j k<;>simp at j k<;>omega)
theorem f3v{a b:Mv}(h:Gl a.t a.x a.y b.t b.x b.y=0):Do a.t a.x a.y=0/\Do b.t b.x b.y=0/\NB (cT a.t b.t) (KP b.t a.x a.y+b.x) (KR b.t a.x a.y+b.y)=0:=by
 unfold Gl at h;split at h
 .rename_i e;exact⟨e.1,e.2,h⟩
 .cases h
def tt(t u:Int):Int:=tb (tbl u.toNat) t.toNat
where tbl:Nat->List Int
 |0=>[0,1,2,3,4,5,6,7]
 |1=>[1,2,3,0,5,6,7,4]
 |2=>[2,3,0,1,6,7,4,5]
 |3=>[3,0,1,2,7,4,5,6]
 |4=>[4,7,6,5,0,3,2,1]
 |5=>[5,4,7,6,1,0,3,2]
 |6=>[6,5,4,7,2,1,0,3]
 |_=>[7,6,5,4,3,2,1,0]
theorem g00{t u:Int}(h:t=0\/t=1\/t=2\/t=3\/t=4\/t=5\/t=6\/t=7)(k:u=0\/u=1\/u=2\/u=3\/u=4\/u=5\/u=6\/u=7):cT t u=tt t u:=by rcases h with rfl|rfl|rfl|rfl|rfl|rfl|rfl|rfl<;>rcases k with rfl|rfl|rfl|rfl|rfl|rfl|rfl|rfl<;>rfl
theorem Wz{a b:Mv}(j:0<=a.t)(k:0<=b.t)(h:Gl a.t a.x a.y b.t b.x b.y=0):JA a b=⟨tt a.t b.t,(AM b.t a.x a.y).1+b.x,(AM b.t a.x a.y).2+b.y⟩/\vM a/\vM b/\vM (JA a b):=by
 obtain⟨l,m,f⟩:=f3v h;have g:vM a:=⟨j,l⟩
 have d:vM b:=⟨k,m⟩
 have e:=@b4j b.t a.x a.y (GJ d);have n:JA a b=⟨cT a.t b.t,KP b.t a.x a.y+b.x,KR b.t a.x a.y+b.y⟩:=by simp[JA,OG,RJ,QV,keep,h]
 rw[n];have i:=g00 (GJ g) (GJ d);refine⟨by rw[e.1,e.2,i],g,d,?_,?_⟩
 .show 0<=cT a.t b.t;rw[i];rcases GJ g with e|e|e|e|e|e|e|e<;>rcases GJ d with c|c|c|c|c|c|c|c<;>rw[e,c]<;>decide
 .unfold NB at f;split at f
  .assumption
  .cases f
theorem f4s{t q:Int}(h:t=0\/t=1\/t=2\/t=3\/t=4\/t=5\/t=6\/t=7)(a:0<=q/\q<=3):0<=tq t q/\tq t q<=3:=by rcases h with rfl|rfl|rfl|rfl|rfl|rfl|rfl|rfl<;>rcases ET a with rfl|rfl|rfl|rfl<;>decide
theorem tq_tt{t u q:Int}(h:t=0\/t=1\/t=2\/t=3\/t=4\/t=5\/t=6\/t=7)(k:u=0\/u=1\/u=2\/u=3\/u=4\/u=5\/u=6\/u=7)(a:0<=q/\q<=3):tq (tt t u) q=tq u (tq t q):=by rcases h with rfl|rfl|rfl|rfl|rfl|rfl|rfl|rfl<;>rcases k with rfl|rfl|rfl|rfl|rfl|rfl|rfl|rfl<;>rcases ET a with rfl|rfl|rfl|rfl<;>decide
theorem sq_tt{t u X Y x y:Int}(h:t=0\/t=1\/t=2\/t=3\/t=4\/t=5\/t=6\/t=7)(k:u=0\/u=1\/u=2\/u=3\/u=4\/u=5\/u=6\/u=7):(sq (tt t u) X Y).1+(AM u x y).1=(sq u ((sq t X Y).1+x) ((sq t X Y).2+y)).1/\(sq (tt t u) X Y).2+(AM u x y).2=(sq u ((sq t X Y).1+x) ((sq t X Y).2+y)).2:=by rcases h with rfl|rfl|rfl|rfl|rfl|rfl|rfl|rfl<;>rcases k with rfl|rfl|rfl|rfl|rfl|rfl|rfl|rfl<;>(simp[sq,tt,tt.tbl,tb,AM];try omega)
theorem c09{a b:Mv}{c:Cl}(i:0<=a.t)(j:0<=b.t)(h:Gl a.t a.x a.y b.t b.x b.y=0)(d:vC c)(k:vC (EA a c)):EA (JA a b) c=EA b (EA a c):=by obtain⟨e,f,g,l⟩:=Wz i j h;rw[JR g (XP k),JR l (XP d),JR f (XP d),e];simp only[Cl.mk.injEq];have:=@sq_tt a.t b.t c.x c.y a.x a.y (GJ f) (GJ g);refine⟨Dz,Dz,tq_tt (GJ f) (GJ g) d.2.2⟩
theorem f1r{C:Int}(h: -4096<=C/\C<=4096):CD 1 C=⟨4,2*C,0⟩/\vM ⟨4,2*C,0⟩:=by
 refine⟨?_,(by show (0:Int)<=4;omega),?_⟩
 .simp[CD,keep,AQ,h,DZ,GQ,GS]
 .exact Cg
theorem f46{C:Int}(h: -4096<=C/\C<=4096):CD 2 C=⟨6,0,2*C⟩/\vM ⟨6,0,2*C⟩:=by
 refine⟨?_,(by show (0:Int)<=6;omega),?_⟩
 .simp[CD,keep,AQ,h,DZ,GQ,GS]
 .exact Cg
theorem f8c{C:Int}(h: -4096<=C/\C<=4096):CD 3 C=⟨5,C,C⟩/\vM ⟨5,C,C⟩:=by
 refine⟨?_,(by show (0:Int)<=5;omega),?_⟩
 .simp[CD,keep,AQ,h,DZ,GQ,GS]
 .exact Cg
theorem g2p{C:Int}(h: -4096<=C/\C<=4096):CD 4 C=⟨7,-C,C⟩/\vM ⟨7,-C,C⟩:=by
 refine⟨?_,(by show (0:Int)<=7;omega),?_⟩
 .simp[CD,keep,AQ,h,DZ,GQ,GS]
 .exact Cg
theorem b8z{c:Cl}{e:Int}(b:0<=e/\e<3)(a:(-300<=c.x/\c.x<=300)/\(-300<=c.y/\c.y<=300)/\0<=c.q/\c.q<=3):
 vM (CD (DH c.q e) (DK c.x c.y c.q e))/\EA (CD (DH c.q e) (DK c.x c.y c.q e)) c=AO c e/\EA (CD (DH c.q e) (DK c.x c.y c.q e)) (AO c e)=c/\
 ((-700<=(CD (DH c.q e) (DK c.x c.y c.q e)).x/\(CD (DH c.q e) (DK c.x c.y c.q e)).x<=700)/\ -700<=(CD (DH c.q e) (DK c.x c.y c.q e)).y/\(CD (DH c.q e) (DK c.x c.y c.q e)).y<=700):=by
 obtain⟨X,Y,Q⟩:=c;simp only at a;rcases ET a.2.2 with rfl|rfl|rfl|rfl<;>rcases HI b with rfl|rfl|rfl<;>
 .simp[DH,DK,Il,KS,tb];first
   |obtain⟨r,vm⟩:=@f1r X Dz
    rw[r];refine⟨vm,?_,?_,?_⟩<;>first|exact B9|(rw[JR vm Ft];simp[AO,sq,tq,EP,ER,EY,tb];done)|exact Aa
   |obtain⟨r,vm⟩:=@f1r (X+1) Dz
    rw[r];refine⟨vm,?_,?_,?_⟩<;>first|exact B9|(rw[JR vm Ft];simp[AO,sq,tq,EP,ER,EY,tb];done)|exact Aa
   |obtain⟨r,vm⟩:=@f46 Y Dz
    rw[r];refine⟨vm,?_,?_,?_⟩<;>first|exact B9|(rw[JR vm Ft];simp[AO,sq,tq,EP,ER,EY,tb];done)|exact Aa
   |obtain⟨r,vm⟩:=@f46 (Y+1) Dz
    rw[r];refine⟨vm,?_,?_,?_⟩<;>first|exact B9|(rw[JR vm Ft];simp[AO,sq,tq,EP,ER,EY,tb];done)|exact Aa
   |obtain⟨r,vm⟩:=@f8c (X+Y+1) Dz
    rw[r];refine⟨vm,?_,?_,?_⟩<;>first|exact B9|(rw[JR vm Ft];simp[AO,sq,tq,EP,ER,EY,tb];done)|exact Aa
   |obtain⟨r,vm⟩:=@g2p (Y-X) Dz
    rw[r];refine⟨vm,?_,?_,?_⟩<;>first|exact B9|(rw[JR vm Ft];simp[AO,sq,tq,EP,ER,EY,tb];done)|exact Aa
   |skip
structure BS where
 out:List Mv
 kn:List Bool
 wt:List Int
def NF(W H:Int)(has:List Int->Bool)(s:BS)(i e:Int):Option BS:=
 if AR W H i e=0 then
  let n:=(AE W H i e).toNat
  let m:=KF W H has (s.out.getD i.toNat AG.d) i e
  let a:BS:=bif s.kn.getD n false then s else⟨s.out.set n m,s.kn.set n true,s.wt++[AE W H i e]⟩
  if a.out.getD n AG.d=m then some a else none
 else some s
def Of(W H:Int)(has:List Int->Bool)(i:Int):List Int->BS->Option BS
 | [],s=>some s
 |e::l,s=>(NF W H has s i e).bind (Of W H has i l)
def Kl(W H:Int)(has:List Int->Bool):Nat->BS->Option (List Mv)
 |0,s=>match s.wt with
  | []=>some s.out
  |_::_=>none
 |f+1,s=>match s.wt with
  | []=>some s.out
  |i::r=>(Of W H has i [0,1,2] ⟨s.out,s.kn,r⟩).bind (Kl W H has f)
def GH(p:Pt):Nat:=(4*p.W*p.H).toNat
def FY(n:Nat):BS:=⟨List.replicate n AG.d,(List.replicate n false).set 0 true,[0]⟩
def OW(p:Pt):Option (List Mv):=Kl p.W p.H (EU p.l) (2*GH p+1) (FY (GH p))
def JM(p:Pt):Int:=if(OW p).isSome then 0 else 11
def BC(p:Pt):List Mv:=(OW p).getD []
def hRel:HK:=λb own=>match b,own with
 | [x],[]=>match Pl x with
   |some (a,p)=>some ⟨a/\(∀c∈p.l,AD .u8 c.e)/\BN p=0,.tup [.osl 0,.int .i64 (JM p)],[.row 36 3 (BC p).length (AG.row (BC p)) none],[]⟩
   |none=>none
 |_,_=>none
def FRel:FamH:=⟨Pt,λp=>[KC p],λ_=>[],λp=>p.l.length<=100000/\(∀c∈p.l,AD .u8 c.e)/\BN p=0,λp=>.tup [.osl 0,.int .i64 (JM p)],λp=>[.row 36 3 (BC p).length (AG.row (BC p)) none],[]⟩
def c13(t:Nat)(T:TypeId)(sz:Nat)(st:St):List Ghost:=match CO t st.ρ with
 |some e=>match e.sv with
  |.osl k=>[.sel [k]]
  |_=>[.nil t T sz,.sel [st.own.length]]
 |none=>[]
def Ko(s:BS):Nat:=s.kn.count false
def lens(p:Pt)(s:BS):Prop:=s.out.length=GH p/\s.kn.length=GH p/\(∀i∈s.wt,0<=i/\i<GH p)/\∀m∈s.out,0<=m.t/\m.t<=255
def ownR(p:Pt)(s:BS):List Blk:=[.cells 34 [.int .i64 p.W,.int .i64 p.H,.sl 3 p.l.length (Eo p.l) none],.cells 294 [.mp (.ints [.i64,.u8]) false (EU p.l) (λq=>[.bool (EU p.l q)])],.row 36 3 s.out.length (AG.row s.out) none,.cells 125 [.osl 2],.row 4 1 s.kn.length (EJ.row s.kn) none,.row 3 1 s.wt.length (AC.row s.wt) none]
def IRel(p:Pt):Nat->Option Inv
 |7=>some {β:=BS×Nat,ok:=λ(s,f)=>lens p s/\OW p=Kl p.W p.H (EU p.l) f s/\2*Ko s+s.wt.length<=f/\f<=2*GH p+1,st:=λ(s,_)=>⟨[⟨8,none,.osl 5⟩,⟨7,none,.clo 188 [.own 0 0,.own 1 0,.own 3 0]⟩,⟨6,none,.osl 4⟩,⟨5,none,.own 3 0⟩,⟨3,none,.int .i64 0⟩,⟨2,none,.con (.slice none 0 0)⟩,⟨1,none,.own 0 0⟩],ownR p s⟩,μ:=λ(_,f)=>f,sub:=λ(_,f)=>some fun
   |11=>some {β:=BS×Nat×Int,ok:=λ(s,e,i)=>e<=3/\lens p s/\(0<=i/\i<GH p)/\OW p=(Of p.W p.H (EU p.l) i ([0,1,2].drop e) s).bind (Kl p.W p.H (EU p.l) (f-1))/\2*Ko s+s.wt.length<=f-1/\0<f/\f<=2*GH p+1,st:=λ(s,e,i)=>⟨[⟨35,none,.int .u8 e⟩,⟨9,none,.int .i64 i⟩,⟨8,none,.osl 5⟩,⟨7,none,.clo 188 [.own 0 0,.own 1 0,.own 3 0]⟩,⟨6,none,.osl 4⟩,⟨5,none,.own 3 0⟩,⟨3,none,.int .i64 0⟩,⟨2,none,.con (.slice none 0 0)⟩,⟨1,none,.own 0 0⟩],ownR p s⟩,μ:=λ(_,e,_)=>3-e}
   |_=>none}
 |_=>none
theorem c1i{W H:Int}{has:List Int->Bool}{f:Nat}{s:BS}(h:s.wt=[]):Kl W H has f s=some s.out:=by cases f<;>simp[Kl,h]
theorem b9n{W H:Int}{has:List Int->Bool}{f:Nat}{s:BS}{i:Int}{r:List Int}(h:s.wt=i::r):Kl W H has (f+1) s=(Of W H has i [0,1,2] ⟨s.out,s.kn,r⟩).bind (Kl W H has f):=by simp[Kl,h]
theorem b94{W H:Int}{has:List Int->Bool}{i:Int}{e:Nat}{s:BS}(h:e<3):Of W H has i ([0,1,2].drop e) s=(NF W H has s i e).bind (Of W H has i ([0,1,2].drop (e+1))):=by have:e=0\/e=1\/e=2:=Dz;rcases this with rfl|rfl|rfl<;>rfl
theorem mvEq(a b:Mv):(decide (a.t=b.t)&&(decide (a.x=b.x)&&(decide (a.y=b.y)&&true)))=decide (a=b):=by cases a;cases b;simp[Bool.decide_and]
theorem b24{W H:Int}{has:List Int->Bool}{s:BS}{i e:Int}(h:AR W H i e=0)(a:s.kn.getD (AE W H i e).toNat false=true):
 NF W H has s i e=if s.out.getD (AE W H i e).toNat AG.d=KF W H has (s.out.getD i.toNat AG.d) i e then some s else none:=by
 simp only[NF,Ji h,a,N9]
theorem c3u{W H:Int}{has:List Int->Bool}{s:BS}{i e:Int}(h:AR W H i e=0)(a:s.kn.getD (AE W H i e).toNat false=false)(b:(AE W H i e).toNat<s.out.length):
 NF W H has s i e=some ⟨s.out.set (AE W H i e).toNat (KF W H has (s.out.getD i.toNat AG.d) i e),s.kn.set (AE W H i e).toNat true,s.wt++[AE W H i e]⟩:=by
 simp only[NF,Ji h,a,cond_false];rw[Ji];rw[Jg,Kv b];rfl
theorem Xo{α:Type}(n i:Nat)(d:α):(List.replicate n d).getD i d=d:=by rw[Jg,List.getElem?_replicate];split<;>rfl
theorem Oi(n i:Nat)(h:0<n):((List.replicate n false).set 0 true).getD i false=decide (i=0):=by
 match n,i with
 |n+1,0=>rfl
 |n+1,i+1=>simpa[List.replicate_succ]using Xo n i false
theorem b30{p:Pt}(h:AV p.W p.H=0):4<=GH p/\GH p<=1024/\CM p.W p.H=GH p:=by have z:=OB h;unfold GH CM;rw[Ji h];omega
theorem pRel:HS 130 hRel:=by
 refine JO {l:=[(187,b4v),(108,Wb),(32,Rw),(188,c1g)],G:={gx:=c13 2 36 3}} ⟨by simpa using⟨f57,c8c,UT,g1w⟩,E2,E2⟩ FRel IRel hRel ?_ ?_ ?_ Tryz.func130 E1 E1 E1 ?_
 .intro args own r h u;unfold hRel at h;split at h
  .split at h
   .rename_i a p hx;cases h;exact⟨p,⟨(RC hx u.1).1,Jm⟩,rfl,Jm,⟨(RC hx u.1).2,u.2⟩,rfl,rfl,rfl⟩
   .cases h
  .cases h
 .exact C0
 .intro i;exact Jw _
 .rintro(p:Pt) μ u;replace u:p.l.length<=100000/\(∀c∈p.l,AD .u8 c.e)/\BN p=0:=u;have hs:=(FN u.2.2).1;obtain⟨n1,n2,M⟩:=b30 hs;refine X0a _ ?_;(repeat' first|constructor|intro h)<;>refine Lm ?_
  all_goals(try simp only[M,CE])
  all_goals(first
   |exact⟨⟨FT _,u.1⟩,u.2.1⟩
   |omega
   |exact Au
   |skip)
  refine⟨(FY (GH p),2*GH p+1),⟨⟨?_,?_,?_,?_⟩,rfl,?_,Jp _⟩,?_,?_⟩
  .simp[FY]
  .simp[FY]
  .intro i o;simp[FY]at o;omega
  .intro m N;have:m=AG.d:=(List.mem_replicate.1 N).2;rw[this];decide
  .have:Ko (FY (GH p))<=GH p:=by
    unfold Ko;refine Lr List.count_le_length ?_;simp[FY]
   show 2*Ko (FY (GH p))+1<=_;omega
  .refine X0a _ ?_;(repeat' first|constructor|intro h)<;>refine Lm ?_
   all_goals(first
    |exact A8
    |exact Bp
    |(simp[FY];done)
    |(intro i o;show _=AG.sv (List.getD _ i AG.d);rw[show (FY (GH p)).out=List.replicate (GH p) AG.d from rfl,Xo];rfl)
    |(intro i o
      show EN (decide (i=0)) _ _=EJ.sv (List.getD _ i false);rw[show (FY (GH p)).kn=(List.replicate (GH p) false).set 0 true from rfl,Oi _ _ Dz];generalize decide (i=0)=b;cases b<;>rfl)
    |(intro i o;(have:i=0:=Dz);subst this;rfl)
    |skip)
  .rintro⟨s,f⟩ ⟨k,hr,v,y⟩;replace k:lens p s:=k;replace hr:OW p=Kl p.W p.H (EU p.l) f s:=hr;replace v:2*Ko s+s.wt.length<=f:=v;replace y:f<=2*GH p+1:=y;refine X0a _ ?_;(repeat' first|constructor|intro h)<;>refine Lm ?_
   all_goals(first
    |(have C:0<s.wt.length:=by simpa using h
      first
      |omega
      |exact C
      |(obtain⟨i,r,A⟩:∃i r,s.wt=i::r:=by(cases e:s.wt with|nil=>(rw[e]at C;exact absurd C E4)|cons i r=>exact⟨i,r,rfl⟩)
        have o:=k.2.2.1 i (by rw[A];simp);have bb:s.wt.length=r.length+1:=by rw[A];rfl
        obtain⟨g,rfl⟩:∃g,f=g+1:=⟨f-1,Dz⟩
        refine⟨((⟨s.out,s.kn,r⟩:BS),(0:Nat),i),⟨Jw 3,⟨k.1,k.2.1,λx hx=>k.2.2.1 x (by rw[A];exact Kd _ hx),k.2.2.2⟩,o,hr.trans (b9n A),?_,Nat.succ_pos g,?_⟩,?_,?_⟩))
    |(have C:s.wt=[]:=by(have:s.wt.length=0:=E6);exact Lj this
      have F:OW p=some s.out:=by rw[hr,c1i C]
      first
      |(unfold BC;rw[F];rfl)
      |(intro i o;unfold BC;rw[F];rfl)
      |(unfold JM;rw[F];rfl))
    |skip)
   .show 2*Ko s+r.length<=g;omega
   .show g+1<=_;omega
   .refine X0a _ ?_;(repeat' first|constructor|intro h)<;>refine Lm ?_
    all_goals(first
     |exact A8
     |exact Bp
     |omega
     |(rw[A];rfl)
     |(intro j I;rw[A];exact f1d AC i r j)
     |skip)
   .rintro⟨s,e,i⟩ ⟨J,k,o,hr,v,-,y⟩;have:g+1-1=g:=rfl;replace J:e<=3:=J;replace k:lens p s:=k;replace o:0<=i/\i<GH p:=o;replace hr:OW p=(Of p.W p.H (EU p.l) i ([0,1,2].drop e) s).bind (Kl p.W p.H (EU p.l) g):=hr;replace v:2*Ko s+s.wt.length<=g:=v;replace y:g+1<=2*GH p+1:=y;have K:=@nv_le p.W p.H i e hs Dz;have hc4:(GH p:Int)=4*(p.W*p.H):=by
     have z:=OB hs;unfold GH;omega
    have O:=k.1;have P:=k.2.1;refine X0a _ ?_;(repeat' first|constructor|intro h)<;>refine Lm ?_
    all_goals(try simp only[RT.lst_row]at*)
    all_goals(first
     |omega
     |(have e3:(e:Int)<3:=L0 ‹decide (_<(3:Int))=true›
       simp only[AD];omega)
     |exact⟨⟨Dz,o.1,Dz⟩,rfl,λ_=>rfl,k.2.2.2⟩
     |(have q:AR p.W p.H i e=0:=by simpa using(by assumption:(!decide (AR p.W p.H i e=0))=false)
       have Q:=K q;first
       |(constructor<;>omega)
       |omega
       |(show _<_;omega)
       |(refine⟨Dz,?_⟩;show (_+1)*8<=_;omega))
     |skip)
    all_goals(first
     |exact⟨⟨Dz,o.1,Dz⟩,Jm,λ_=>Jm,k.2.2.2⟩
     |(have e3:e=3:=by(have q:¬(e:Int)<3:=Ni ‹decide (_<(3:Int))=false›;omega)
       subst e3;refine⟨(s,g),⟨k,hr,v,by show g<=_;omega⟩,Nat.lt_succ_self g,?_⟩)
     |(have e3:e<3:=by(have q:(e:Int)<3:=L0 ‹decide (_<(3:Int))=true›;omega)
       have q:¬AR p.W p.H i e=0:=by simpa using ‹(!decide (AR p.W p.H i e=0))=true›
       have h1:NF p.W p.H (EU p.l) s i e=some s:=by unfold NF;rw[if_neg q]
       refine⟨(s,e+1,i),⟨e3,k,o,Hr,v,Nat.succ_pos g,y⟩,Gw,?_⟩)
     |(exfalso;simp at h;done)
     |(have e3:e<3:=by(have q:(e:Int)<3:=L0 ‹decide (_<(3:Int))=true›;omega)
       have q:AR p.W p.H i e=0:=Ih;have E:s.kn.getD (AE p.W p.H i e).toNat false=true:=by simpa[EJ]using ‹(!s.kn.getD (AE p.W p.H i e).toNat EJ.d)=false›
       first
       |(have R:(!decide (s.out.getD (AE p.W p.H i e).toNat AG.d=KF p.W p.H (EU p.l) (s.out.getD i.toNat AG.d) i e))=true:=by rw[<-mvEq];exact h
         have L:OW p=none:=by rw[hr,b94 e3,b24 q E,Jj (by simpa using R)];rfl
         first
         |(unfold BC;rw[L];rfl)
         |(unfold JM;rw[L];rfl))
       |(have S:(!decide (s.out.getD (AE p.W p.H i e).toNat AG.d=KF p.W p.H (EU p.l) (s.out.getD i.toNat AG.d) i e))=false:=by rw[<-mvEq];exact h
         have h1:NF p.W p.H (EU p.l) s i e=some s:=by rw[b24 q E,Ji (by simpa using S)]
         refine⟨(s,e+1,i),⟨e3,k,o,Hr,v,Nat.succ_pos g,y⟩,Gw,?_⟩))
     |(have e3:e<3:=by(have q:(e:Int)<3:=L0 ‹decide (_<(3:Int))=true›;omega)
       have q:AR p.W p.H i e=0:=Ih;have Q:=K q;have E:s.kn.getD (AE p.W p.H i e).toNat false=false:=by simpa[EJ]using ‹(!s.kn.getD (AE p.W p.H i e).toNat EJ.d)=true›
       have h1:=c3u (has:=EU p.l) q E Dz;have hc:=b2z (n:=(AE p.W p.H i e).toNat) Dz E;have T:0<=(s.out.getD i.toNat AG.d).t/\(s.out.getD i.toNat AG.d).t<=255:=k.2.2.2 _ (by simp[show i.toNat<s.out.length from Dz]);refine⟨(⟨s.out.set (AE p.W p.H i e).toNat (KF p.W p.H (EU p.l) (s.out.getD i.toNat AG.d) i e),s.kn.set (AE p.W p.H i e).toNat true,s.wt++[AE p.W p.H i e]⟩,e+1,i),⟨e3,⟨by simp[O],by simp[P],λx hx=> ?_,b95 k.2.2.2 (c3g T)⟩,o,Hr,?_,Nat.succ_pos g,y⟩,Gw,?_⟩)
     |skip)
    all_goals(first
     |(rcases K6.1 (by assumption:_∈_++_)with hx|hx
       .exact k.2.2.1 _ hx
       .rw[Kb.1 hx];omega)
     |(show 2*(s.kn.set _ true).count false+(s.wt++[_]).length<=g
       unfold Ko at v;simp only[J4];omega)
     |skip)
    all_goals refine X0a _ ?_;(repeat' first|constructor|intro h)<;>refine Lm ?_
    all_goals(first
     |exact A8
     |exact Bp
     |omega
     |(simp;done)
     |(intro j I
       by_cases w:j=(AE p.W p.H i e).toNat
       .rw[K3 w,b19 AG Dz w];rfl
       .rw[K4 w,b3v AG w];rfl)
     |(intro j I
       by_cases w:j=(AE p.W p.H i e).toNat
       .rw[K3 w,b19 EJ Dz w];rfl
       .rw[K4 w,b3v EJ w];rfl)
     |(intro j I
       by_cases q:j<s.wt.length
       .rw[Ji q,b0e AC q]
       .rw[Jj q,show j=s.wt.length from Dz,L3,b0d];rfl)
     |skip)
theorem d6q{W H:Int}{has:List Int->Bool}{s b:BS}{i e:Int}(h:NF W H has s i e=some b)(a:∀m∈s.out,0<=m.t/\m.t<=255):b.out.length=s.out.length/\∀m∈b.out,0<=m.t/\m.t<=255:=by
 unfold NF at h;split at h
 .simp only at h;split at h
  .cases h;cases s.kn.getD (AE W H i e).toNat false with
   |true=>exact⟨rfl,a⟩
   |false=>
    simp only[cond_false];refine⟨E2,b95 a (c3g ?_)⟩;rw[Jg];cases hg:s.out[i.toNat]? with
    |none=>decide
    |some m=>exact a m (Jn hg)
  .cases h
 .cases h;exact⟨rfl,a⟩
theorem c43{W H:Int}{has:List Int->Bool}{i:Int}:∀(l:List Int) {s f:BS},Of W H has i l s=some f->(∀m∈s.out,0<=m.t/\m.t<=255)->f.out.length=s.out.length/\∀m∈f.out,0<=m.t/\m.t<=255
 | [],s,f,h,g=>by cases h;exact⟨rfl,g⟩
 |e::l,s,f,h,g=>by simp only[Of,Js]at h;obtain⟨s1,j,k⟩:=h;obtain⟨a,b⟩:=d6q j g;obtain⟨c,d⟩:=c43 l k b;exact⟨c.trans a,d⟩
theorem d51{W H:Int}{has:List Int->Bool}:∀(f:Nat) {s:BS} {l:List Mv},Kl W H has f s=some l->(∀m∈s.out,0<=m.t/\m.t<=255)->l.length=s.out.length/\∀m∈l,0<=m.t/\m.t<=255
 |0,s,l,h,e=>by
  simp only[Kl]at h;split at h<;>cases h
  exact⟨rfl,e⟩
 |f+1,s,l,h,e=>by
  simp only[Kl]at h;split at h
  .cases h;exact⟨rfl,e⟩
  .simp only[Js]at h;obtain⟨s1,g,i⟩:=h;obtain⟨a,b⟩:=c43 _ g (s:=⟨s.out,s.kn,_⟩) e;obtain⟨c,d⟩:=d51 f i b;exact⟨c.trans a,d⟩
theorem c17(p:Pt):(JM p=0->(BC p).length=GH p)/\(∀m∈BC p,0<=m.t/\m.t<=255)/\(BC p).length<=GH p:=by
 unfold JM BC;cases h:OW p with
 |none=>simp
 |some l=>
  have:=d51 _ h (λm a=>by have:m=AG.d:=(List.mem_replicate.1 a).2;rw[this];decide)
  simp only[FY,List.length_replicate]at this;exact⟨λ_=>this.1,this.2,Nat.le_of_eq this.1⟩
def XV(r m:Mv):Int:=Gl m.t m.x m.y r.t r.x r.y
def TG(W H:Int)(m:Mv)(i:Nat):Int:=HM m.t m.x m.y (BV W H i) (BW W H i) (BZ W H i)
def imC(W H:Int)(m:Mv)(i:Nat):Cl:=⟨keep (TG W H m i) (MB m.t m.x m.y (BV W H i) (BW W H i)),keep (TG W H m i) (MV m.t m.x m.y (BV W H i) (BW W H i)),keep (TG W H m i) (LJ m.t (BZ W H i))⟩
def KE(p:Pt)(r:Mv)(i:Nat):Int:=if XV r ((BC p).getD i AG.d)=0 then TG p.W p.H (JA ((BC p).getD i AG.d) r) i else XV r ((BC p).getD i AG.d)
def CH(p:Pt)(r:Mv):Int:=if BN p=0 then(if Do r.t r.x r.y=0 then(if JM p=0 then Ml (KE p r) (BC p).length 0 else JM p)else 1)else BN p
def Bl(p:Pt)(r:Mv):List Mv:=if CH p r=0 then(BC p).map λm=>JA m r else []
def Al(p:Pt)(r:Mv):List Cl:=if CH p r=0 then(List.range (BC p).length).map λi=>imC p.W p.H (JA ((BC p).getD i AG.d) r) i else []
def LY(p:Pt)(r:Mv)(j:Nat):Mv:=JA ((BC p).getD j AG.d) r
def Xt(p:Pt)(r:Mv)(j:Nat):Cl:=imC p.W p.H (LY p r j) j
theorem Xz{p:Pt}{r:Mv}(h:CH p r=0):(Bl p r).length=(BC p).length/\∀j,j<(BC p).length->(Bl p r).getD j AG.d=LY p r j:=by unfold Bl;rw[Ji h];refine⟨E2,λj a=> ?_⟩;simp[a,LY]
theorem b0q{p:Pt}{r:Mv}(h:CH p r=0):(Al p r).length=(BC p).length/\∀j,j<(BC p).length->(Al p r).getD j CJ.d=Xt p r j:=by unfold Al;rw[Ji h];refine⟨E2,λj a=> ?_⟩;simp[a,Xt,LY]
theorem b2c{p:Pt}{r:Mv}(h:CH p r≠0):Bl p r=[]/\Al p r=[]:=by unfold Bl Al;rw[Jj h,Jj h];exact C7
theorem JN(p:Pt):(⟨p.W,p.H,FX p.l.length (Eo p.l)⟩:Pt)=p:=by rw[CE]
def Pb(r:Mv):SV:=.agg [.int .u8 r.t,.int .i64 r.x,.int .i64 r.y]
def Vw:AH
 | [x,.agg [.int .u8 t,.int .i64 a,.int .i64 b]]=>match Pl x with
   |some (q,p)=>some ((q/\∀c∈p.l,AD .u8 c.e)/\0<=t/\t<=255,.tup [.sl 3 (Bl p ⟨t,a,b⟩).length (AG.row (Bl p ⟨t,a,b⟩)) none,.sl 3 (Al p ⟨t,a,b⟩).length (CJ.row (Al p ⟨t,a,b⟩)) none,.int .i64 (CH p ⟨t,a,b⟩)])
   |none=>none
 |_=>none
def FBoth:Fam:=⟨Pt×Mv,λ(p,r)=>[KC p,Pb r],λ(p,r)=>(p.l.length<=100000/\∀c∈p.l,AD .u8 c.e)/\0<=r.t/\r.t<=255,λ(p,r)=>.tup [.sl 3 (Bl p r).length (AG.row (Bl p r)) none,.sl 3 (Al p r).length (CJ.row (Al p r)) none,.int .i64 (CH p r)]⟩
def IBoth:Pt×Mv->Nat->Option Inv
 |(p,r),11=>some {β:=Nat,ok:=λi=>i<=(BC p).length/\Ml (KE p r) (BC p).length 0=Ml (KE p r) ((BC p).length-i) i,st:=λi=>⟨[⟨36,none,.int .i64 i⟩,⟨35,none,.int .i64 (BC p).length⟩,⟨34,none,.osl 2⟩,⟨10,none,.osl 3⟩,⟨8,none,.osl 2⟩,⟨6,none,.int .i64 0⟩,⟨5,none,.con (.slice none 0 0)⟩,⟨4,none,.con (.slice none 0 0)⟩,⟨3,none,.own 1 0⟩,⟨2,none,.own 0 0⟩],[.cells 34 [.int .i64 p.W,.int .i64 p.H,.sl 3 p.l.length (Eo p.l) none],.cells 36 [.int .u8 r.t,.int .i64 r.x,.int .i64 r.y],.row 36 3 (BC p).length (λj=>AG.sv (upto (LY p r) (λj=>(BC p).getD j AG.d) i j)) none,.row 103 3 (BC p).length (λj=>CJ.sv (upto (Xt p r) (λ_=>CJ.d) i j)) none]⟩,μ:=λi=>(BC p).length-i}
 |_,_=>none
theorem f8h:PS 79 Vw:=by
 refine LV {l:=[(129,b6n),(62,RM),(90,Wo),(24,Rd),(66,WQ)],h:=[(130,hRel)]} ⟨by simpa using⟨d5a,VE,b2b,g14,b5n⟩,E2,by simpa using pRel⟩ FBoth IBoth Vw ?_ ?_ Tryz.func79 E1 E1 E1 ?_
 .intro args pre s h f;unfold Vw at h;split at h
  .rename_i x t a b;split at h
   .rename_i q p hx;cases h;exact⟨(p,⟨t,a,b⟩),⟨(RC hx f.1.1).1,Hs,Jm⟩,⟨⟨(RC hx f.1.1).2,f.1.2⟩,f.2⟩,rfl⟩
   .cases h
  .cases h
 .exact Bz
 .rintro⟨p,r⟩ f;replace f:(p.l.length<=100000/\∀c∈p.l,AD .u8 c.e)/\0<=r.t/\r.t<=255:=f;have C:BN p≠0->CH p r=BN p:=λh=>by unfold CH;rw[if_neg h]
  have E:BN p=0->Do r.t r.x r.y≠0->CH p r=1:=λh g=>by unfold CH;rw[if_pos h,if_neg g]
  have F:BN p=0->Do r.t r.x r.y=0->JM p≠0->CH p r=JM p:=λh g u=>by unfold CH;rw[if_pos h,if_pos g,if_neg u]
  have G:BN p=0->Do r.t r.x r.y=0->JM p=0->CH p r=Ml (KE p r) (BC p).length 0:=λh g u=>by unfold CH;rw[if_pos h,if_pos g,if_pos u]
  have b5:CH p r≠0->(Bl p r).length=0/\(Al p r).length=0:=λh=>by rw[(b2c h).1,(b2c h).2];exact⟨rfl,rfl⟩
  have v:=c17 p;refine X0a _ ?_;(repeat' first|constructor|intro h)<;>refine Lm ?_
  all_goals(try simp only[CE]at*)
  all_goals(first
   |exact⟨⟨FT _,f.1.1⟩,f.1.2⟩
   |exact f.2
   |(have o:BN p=0:=by simpa using ‹(!decide (BN p=0))=false›
     exact⟨⟨FT _,f.1.1⟩,f.1.2,o⟩)
   |(fail_if_success (with_reducible refine Exists.intro ?_ ?_)
     have h1:=b5;have M:=C;have N:=E;have O:=F;clear C E F G b5 v;simp only[Is,Iz]at*;first
     |(have e:=M E5;first|exact Bu)
     |(have e:=N E5 E5;first|exact(h1 Gx).1|exact(h1 Gx).2|exact e.symm)
     |(have e:=O E5 E5 E5;first|exact Bu))
   |skip)
  all_goals(
   have o:BN p=0:=L0 (by simpa using ‹(!decide (BN ⟨p.W,p.H,p.l⟩=0))=false›);have P:Do r.t r.x r.y=0:=L0 (by simpa using ‹(!decide (Do r.t r.x r.y=0))=false›);have e2:JM p=0:=L0 (by simpa using ‹(!decide (JM ⟨p.W,p.H,p.l⟩=0))=false›);have hs:=(FN o).1;obtain⟨n1,n2,n3⟩:=b30 hs;have B:=v.1 e2;have I:=G o P e2)
  .have:(BC ⟨p.W,p.H,p.l⟩).length=GH p:=B;refine⟨Dz,Dz,Rj E1 Dz Dz,Dz⟩
  refine⟨(0:Nat),⟨Jw _,rfl⟩,?_,?_⟩
  .refine X0a _ ?_;(repeat' first|constructor|intro h)<;>refine Lm ?_
   all_goals(first
    |exact A8
    |(intro j k;show _=AG.sv (upto _ _ 0 j);rw[b36];rfl)
    |(intro j k;show _=CJ.sv (upto _ _ 0 j);rw[b36];rfl)
    |skip)
  .intro i n;replace n:i<=(BC p).length/\Ml (KE p r) (BC p).length 0=Ml (KE p r) ((BC p).length-i) i:=n;have J:0<=((BC p).getD i AG.d).t/\((BC p).getD i AG.d).t<=255:=by
    rw[Jg];cases hg:(BC p)[i]? with
    |none=>decide
    |some m=>exact v.2.1 m (Jn hg)
   have K:=c7z (x:=((BC p).getD i AG.d).x) (y:=((BC p).getD i AG.d).y) (z:=r.x) (w:=r.y) J.1 f.2.1;have Q:=UU p.W p.H i;have c0:i<(BC p).length->KE p r i≠0->CH p r=KE p r i:=λh g=>by rw[I,n.2,show (BC p).length-i=((BC p).length-(i+1))+1 from Dz];simp only[Ml];rw[Jj g]
   have c1:i<(BC p).length->KE p r i=0->Ml (KE p r) (BC p).length 0=Ml (KE p r) ((BC p).length-(i+1)) (i+1):=λh g=>by rw[n.2,show (BC p).length-i=((BC p).length-(i+1))+1 from Dz];simp only[Ml];rw[Ji g]
   have R:¬i<(BC p).length->CH p r=0:=λh=>by rw[I,n.2,show (BC p).length-i=0 from Dz];rfl
   have S:XV r ((BC p).getD i AG.d)≠0->KE p r i=XV r ((BC p).getD i AG.d):=λh=>by unfold KE;rw[if_neg h]
   have L:XV r ((BC p).getD i AG.d)=0->KE p r i=TG p.W p.H (LY p r i) i:=λh=>by unfold KE;rw[if_pos h];rfl
   refine X0a _ ?_;(repeat' first|constructor|intro h)<;>refine Lm ?_
   all_goals(try simp only[Ir,b7j _ _ (Jp i),decide_true,N9,Is]at*)
   all_goals(try(replace b6:i<(BC p).length:=Dz))
   all_goals(first
    |omega
    |exact⟨J,f.2⟩
    |exact⟨K.1,K.2,Q.1⟩
    |exact A6
    |(show i<(BC p).length;omega)
    |(have e:=S E5
      have e2:=c0 Dz (by rw[e];assumption);first
      |exact Bi)
    |(have e:=L E5
      have e2:=c0 Dz (by rw[e];assumption);first
      |exact Bi)
    |(have e:=L E5
      refine⟨i+1,⟨Dz,c1 Dz (by rw[e];assumption)⟩,Dz,?_⟩)
    |(have e:=R Dz
      first
      |exact e.symm
      |exact(Xz e).1.symm
      |exact(b0q e).1.symm
      |(intro j k;show AG.sv _=AG.sv _;rw[YF _ _ Dz,(Xz e).2 j Dz])
      |(intro j k;show CJ.sv _=CJ.sv _;rw[YF _ _ Dz,(b0q e).2 j Dz]))
    |skip)
   all_goals refine X0a _ ?_;(repeat' first|constructor|intro h)<;>refine Lm ?_
   all_goals(try simp only[]at*)
   all_goals(first
    |exact An
    |(intro j k;exact b2x AG (λ_ _=>rfl) (λ_ _=>rfl) (LY p r) _ i j)
    |(intro j k;exact b2x CJ (λ_ _=>rfl) (λ_ _=>rfl) (Xt p r) _ i j)
    |skip)
def AK(W H i:Int):Cl:=⟨BV W H i,BW W H i,BZ W H i⟩
theorem JU{W H:Int}(h:AV W H=0):1<=W/\1<=H/\W<=256/\H<=256/\W*H<=256:=by
 unfold AV at h;split at h
 .assumption
 .cases h
theorem ce_ok{W H i:Int}(hs:AV W H=0)(a:0<=i)(h:i<4*W*H):IL W H i=0:=by simp[IL,hs,Qy,a,h]
theorem KZ{W H i:Int}(hs:AV W H=0)(a:0<=i)(h:i<4*W*H):AK W H i=⟨i/4%W,i/4/W,i%4⟩:=by have e:=ce_ok hs a h;simp[AK,BV,BW,BZ,e]
theorem LZ{W H i:Int}(hs:AV W H=0)(a:0<=i)(h:i<4*W*H):
 (0<=(AK W H i).x/\(AK W H i).x<W)/\(0<=(AK W H i).y/\(AK W H i).y<H)/\(0<=(AK W H i).q/\(AK W H i).q<=3)/\i=4*((AK W H i).y*W+(AK W H i).x)+(AK W H i).q:=by
 have hw:=JU hs;rw[KZ hs a h];simp only;have a1:=N6 (i/4) (show W≠0 from Dz);have a2:=N2 (i/4) (show 0<W from Dz);have a3:0<=i/4/W:=Int.ediv_nonneg Dz Dz;have a4:i/4/W<H:=by
  apply Int.ediv_lt_of_lt_mul Dz;have:4*W*H=4*(H*W):=by rw[Md,Int.mul_comm W H]
  omega
 have a5:=Int.mul_ediv_add_emod (i/4) W;have a6:i/4/W*W=W*(i/4/W):=Int.mul_comm _ _;omega
theorem g2z{W H x y q:Int}(hs:AV W H=0)(hx:0<=x/\x<W)(c:0<=y/\y<H)(hq:0<=q/\q<=3):0<=4*(y*W+x)+q/\4*(y*W+x)+q<4*W*H/\AK W H (4*(y*W+x)+q)=⟨x,y,q⟩:=by
 have hw:=JU hs;have b0:0<=y*W:=Int.mul_nonneg c.1 Dz;have b1:y*W+x<W*H:=by have:(y+1)*W<=H*W:=Int.mul_le_mul_of_nonneg_right Dz Dz;rw[Int.add_mul,Int.one_mul,Int.mul_comm H W]at this;omega
 have b2:4*W*H=4*(W*H):=Md _ _ _;have a:0<=4*(y*W+x)+q:=Dz;have b:4*(y*W+x)+q<4*W*H:=Dz;refine⟨a,b,?_⟩;rw[KZ hs a b];have d:(4*(y*W+x)+q)/4=y*W+x:=Dz;rw[d];refine Cl.ext' ?_ ?_ ?_
 .show (y*W+x)%W=x;rw[Int.add_comm,Int.add_mul_emod_self_right];exact Int.emod_eq_of_lt hx.1 hx.2
 .show (y*W+x)/W=y;rw[Int.add_comm,Int.add_mul_ediv_right _ _ Dz,Int.ediv_eq_zero_of_lt hx.1 hx.2];omega
 .show (4*(y*W+x)+q)%4=q;omega
theorem NT{c:Cl}{e:Int}(a:0<=c.q/\c.q<=3)(b:0<=e/\e<3):(c.x-1<=(AO c e).x/\(AO c e).x<=c.x+1)/\(c.y-1<=(AO c e).y/\(AO c e).y<=c.y+1)/\(0<=(AO c e).q/\(AO c e).q<=3):=by obtain⟨X,Y,Q⟩:=c;simp only at a;rcases ET a with rfl|rfl|rfl|rfl<;>rcases HI b with rfl|rfl|rfl<;>(simp[AO,EP,ER,EY,tb];try omega)
theorem Wf{c:Cl}{e:Int}(a:0<=c.q/\c.q<=3)(b:0<=e/\e<3):AO (AO c e) e=c:=by obtain⟨X,Y,Q⟩:=c;simp only at a;rcases ET a with rfl|rfl|rfl|rfl<;>rcases HI b with rfl|rfl|rfl<;>(simp[AO,EP,ER,EY,tb];try omega)
theorem f7w{W H i e:Int}(hs:AV W H=0)(a:0<=i)(h:i<4*W*H)(b:0<=e/\e<3):FU (AK W H i).x (AK W H i).y (AK W H i).q e=0:=by have hw:=JU hs;have c:=LZ hs a h;have d:=NT c.2.2.1 b;simp only[AO]at d;unfold FU;rw[Ji ⟨Gy,Dz⟩,Ji];unfold BG;rw[Ji];omega
theorem XH{W H i e:Int}(hs:AV W H=0)(b:0<=i)(h:i<4*W*H)(d:0<=e/\e<3):
 (AR W H i e=0↔(0<=(AO (AK W H i) e).x/\(AO (AK W H i) e).x<W)/\0<=(AO (AK W H i) e).y/\(AO (AK W H i) e).y<H)/\
 (AR W H i e=0->AE W H i e=4*((AO (AK W H i) e).y*W+(AO (AK W H i) e).x)+(AO (AK W H i) e).q):=by
 have hw:=JU hs;have l:=LZ hs b h;have hb:=NT l.2.2.1 d;have f:=ce_ok hs b h;have m:=f7w hs b h d;have a:FU (BV W H i) (BW W H i) (BZ W H i) e=0:=m;have g:IC (BV W H i) (BW W H i) (BZ W H i) e=(AO (AK W H i) e).x:=by simp[IC,a,AO,AK]
 have j:IH (BV W H i) (BW W H i) (BZ W H i) e=(AO (AK W H i) e).y:=by simp[IH,a,AO,AK]
 have k:HJ (BV W H i) (BW W H i) (BZ W H i) e=(AO (AK W H i) e).q:=by simp[HJ,a,AO,AK]
 have n:AR W H i e=LK W H (AO (AK W H i) e).x (AO (AK W H i) e).y (AO (AK W H i) e).q:=by simp[AR,f,a,g,j,k]
 have o:AE W H i e=PP W H (AO (AK W H i) e).x (AO (AK W H i) e).y (AO (AK W H i) e).q:=by simp[AE,f,a,g,j,k]
 rw[n,o];have r:BG (AO (AK W H i) e).x (AO (AK W H i) e).y (AO (AK W H i) e).q=0:=Gy;refine⟨?_,λh=>by simp[PP,h]⟩;unfold LK;rw[Ji hs];constructor
 .intro h;split at h
  .rename_i c;exact⟨⟨c.2.1,c.2.2.1⟩,c.2.2.2⟩
  .cases h
 .intro h;rw[Ji ⟨r,h.1.1,h.1.2,h.2⟩]
theorem GU{W H i e:Int}(hs:AV W H=0)(b:0<=i)(h:i<4*W*H)(c:0<=e/\e<3)(d:AR W H i e=0):
 (0<=AE W H i e/\AE W H i e<4*W*H)/\AK W H (AE W H i e)=AO (AK W H i) e:=by
 have j:=LZ hs b h;have k:=NT j.2.2.1 c;have f:=XH hs b h c;have g:=f.1.1 d;have a:=g2z hs g.1 g.2 k.2.2;rw[f.2 d];exact⟨⟨a.1,a.2.1⟩,a.2.2⟩
theorem Rh{W H i e:Int}(hs:AV W H=0)(d:0<=i)(h:i<4*W*H)(b:0<=e/\e<3)(g:AR W H i e=0):
 AR W H (AE W H i e) e=0/\AE W H (AE W H i e) e=i:=by
 have a:=LZ hs d h;obtain⟨⟨j,k⟩,l⟩:=GU hs d h b g;have c:=XH hs j k b;rw[l,Wf a.2.2.1 b]at c;have f:AR W H (AE W H i e) e=0:=c.1.2 ⟨a.1,a.2.1⟩;exact⟨f,by rw[c.2 f];exact a.2.2.2.symm⟩
theorem c34{W H i e:Int}(hs:AV W H=0)(b:0<=i)(h:i<4*W*H)(c:0<=e/\e<3)(a:AR W H i e=0):ED W H (AE W H i e) e=ED W H i e:=by obtain⟨d,f⟩:=Rh hs b h c a;simp[ED,EI,FI,a,d,f,Int.min_comm]
theorem d6e{c:Cl}{e:Int}(a:0<=c.q/\c.q<=3)(b:0<=e/\e<3):DH (AO c e).q e=DH c.q e/\DK (AO c e).x (AO c e).y (AO c e).q e=DK c.x c.y c.q e:=by obtain⟨X,Y,Q⟩:=c;simp only at a;rcases ET a with rfl|rfl|rfl|rfl<;>rcases HI b with rfl|rfl|rfl<;>(simp[AO,EP,ER,EY,tb,DH,DK,Il,KS];try omega)
theorem sl_eq{W H i e:Int}(hs:AV W H=0)(b:0<=i)(h:i<4*W*H)(f:0<=e/\e<3)(g:AR W H i e=0)(j:EI W H i e=i):
 VB W H i e=DH (AK W H i).q e/\Vm W H i e=DK (AK W H i).x (AK W H i).y (AK W H i).q e:=by
 have hw:=JU hs;have a:=LZ hs b h;have c:QR W H i e=0:=by simp[QR,hs,g,j,FI]
 have d:=KZ hs b h;have k:Uv W H i e=0:=by simp only[Uv,c,L1,OA];rw[d]at a;simp only at a;unfold QE;rw[Ji ⟨Gy,Dz⟩,Ji];unfold AQ;rw[Ji];have l:=ET a.2.2.1;rcases l with q|q|q|q<;>rcases HI f with rfl|rfl|rfl<;>(rw[q];simp[DH,DK,Il,KS,tb];omega)
 rw[d];simp[VB,Vm,c,k,keep]
theorem b2p{W H i e:Int}{has:List Int->Bool}{m:Mv}(hs:AV W H=0)(d:0<=i)(h:i<4*W*H)(b:0<=e/\e<3)(a:AR W H i e=0):
 KF W H has m i e=bif has (ED W H i e)then JA (CD (DH (AK W H i).q e) (DK (AK W H i).x (AK W H i).y (AK W H i).q e)) m else m:=by
 have k:=LZ hs d h;obtain⟨⟨l,n⟩,o⟩:=GU hs d h b a;obtain⟨g,r⟩:=Rh hs d h b a;have j:=d6e k.2.2.1 b;have s:FI W H i e=e:=by simp[FI,a]
 have c:VB W H (EI W H i e) e=DH (AK W H i).q e/\Vm W H (EI W H i e) e=DK (AK W H i).x (AK W H i).y (AK W H i).q e:=by
  by_cases hl:i<=AE W H i e
  .have f:EI W H i e=i:=by simp only[EI,a,L1];omega
   rw[f];exact sl_eq hs d h b a f
  .have f:EI W H i e=AE W H i e:=by simp only[EI,a,L1];omega
   have t:EI W H (AE W H i e) e=AE W H i e:=by simp only[EI,g,L1,r];omega
   rw[f];have:=sl_eq hs l n b g t;rw[o]at this;rw[this.1,this.2,j.1,j.2];exact C7
 unfold KF;rw[s,c.1,c.2]
def HR(m:Mv)(c:Cl)(K:Int):Prop:=(-K<=(EA m c).x/\(EA m c).x<=K)/\ -K<=(EA m c).y/\(EA m c).y<=K
theorem f60{t a b:Int}(ha: -700<=a/\a<=700)(hb: -700<=b/\b<=700):(-700<=(AM t a b).1/\(AM t a b).1<=700)/\ -700<=(AM t a b).2/\(AM t a b).2<=700:=by
 unfold AM;repeat' split
 all_goals(simp only;omega)
theorem d44{t a b:Int}(h:(a+b)%2=0):((AM t a b).1+(AM t a b).2)%2=0:=by
 unfold AM;repeat' split
 all_goals(simp only;omega)
theorem c8m{m:Mv}{c:Cl}{K:Int}(b:vM m)(hc:(0<=c.x/\c.x<=300)/\(0<=c.y/\c.y<=300)/\0<=c.q/\c.q<=3)(a:HR m c K)(hK:0<=K/\K<=2000):(-2400<=m.x/\m.x<=2400)/\ -2400<=m.y/\m.y<=2400:=by unfold HR at a;rw[JR b Dz]at a;simp only at a;rcases GJ b with e|e|e|e|e|e|e|e<;>simp only[sq,e]at a<;>simp at a<;>omega
theorem c3z{m:Mv}{c:Cl}{e K:Int}(i:0<=e/\e<3)(j:(0<=c.x/\c.x<=300)/\(0<=c.y/\c.y<=300)/\0<=c.q/\c.q<=3)(a:vM m)(v:HR m c K)(w:0<=K/\K<=2000):
 vM (JA (CD (DH c.q e) (DK c.x c.y c.q e)) m)/\EA (JA (CD (DH c.q e) (DK c.x c.y c.q e)) m) (AO c e)=EA m c/\EA (JA (CD (DH c.q e) (DK c.x c.y c.q e)) m) c=EA m (AO c e):=by
 obtain⟨f,k,l,n⟩:=@b8z c e i Dz;generalize CD (DH c.q e) (DK c.x c.y c.q e)=r at*;have hb:=NT j.2.2 i;have qk:=c8m a j v w;have o:=@b4j m.t r.x r.y (GJ a);have hll:=@f60 m.t r.x r.y n.1 n.2;have hlp:=@d44 m.t r.x r.y (QI f).2.2;have c9:=(QI a).2.2;have g:Gl r.t r.x r.y m.t m.x m.y=0:=by unfold Gl;rw[Ji ⟨f.2,a.2⟩,o.1,o.2];unfold NB;rw[Ji];unfold Do;rw[Ji];refine⟨?_,Dz,Dz,Dz,Dz,Dz⟩;rw[g00 (GJ f) (GJ a)];rcases GJ f with b|b|b|b|b|b|b|b<;>rcases GJ a with d|d|d|d|d|d|d|d<;>rw[b,d]<;>decide
 have s:vC c:=Ga;have u:vC (AO c e):=Ga;refine⟨(Wz f.1 a.1 g).2.2.2,?_,?_⟩
 .rw[c09 f.1 a.1 g u (by rw[l];exact s),l]
 .rw[c09 f.1 a.1 g s (by rw[k];exact u),k]
theorem c8u{m:Mv}{c:Cl}{e K:Int}(d:0<=e/\e<3)(f:(0<=c.x/\c.x<=300)/\(0<=c.y/\c.y<=300)/\0<=c.q/\c.q<=3)(b:vM m)(a:HR m c K):HR m (AO c e) (K+1):=by have hb:=NT f.2.2 d;unfold HR at*;rw[JR b Dz]at a⊢;simp only at a⊢;rcases GJ b with e|e|e|e|e|e|e|e<;>simp only[sq,e]at a⊢ <;>simp at a⊢ <;>omega
theorem OE{α:Type}{T:List α}{i j:Nat}{x d:α}(h:i<T.length):(T.set i x).getD j d=if j=i then x else T.getD j d:=by
 by_cases e:j=i
 .subst e;simp[h]
 .simp[Jz (Ne.symm e),e]
theorem b0m:∀l:List Bool,l.count true+l.count false=l.length
 | []=>rfl
 |a::r=>by have:=b0m r;cases a<;>simp<;>omega
section
variable{W H:Int}{has:List Int->Bool}
def AF(W H:Int):Nat:=(4*W*H).toNat
theorem CG(hs:AV W H=0):(AF W H:Int)=4*W*H/\AF W H<=1024/\4<=AF W H:=by have h:=JU hs;have e:4*W*H=4*(W*H):=Md _ _ _;have:0<W*H:=Int.mul_pos Dz Dz;unfold AF;omega
def Uj(W H:Int)(has:List Int->Bool)(s:BS)(i e:Int):Prop:=
 AR W H i e=0->s.kn.getD (AE W H i e).toNat false=true/\s.out.getD (AE W H i e).toNat AG.d=KF W H has (s.out.getD i.toNat AG.d) i e
structure More (s s':BS):Prop where
 kn:∀j:Nat,s.kn.getD j false=true->s'.kn.getD j false=true/\s'.out.getD j AG.d=s.out.getD j AG.d
 wt:∀i∈s.wt,i∈s'.wt
 new:∀j:Nat,s'.kn.getD j false=true->s.kn.getD j false=true\/(j:Int)∈s'.wt
theorem More.refl(s:BS):More s s:=⟨λ_ h=>⟨h,rfl⟩,λ_ h=>h,λ_ h=>.inl h⟩
theorem More.trans{a b c:BS}(h:More a b)(k:More b c):More a c:=
 ⟨λj d=>⟨(k.kn j (h.kn j d).1).1,(k.kn j (h.kn j d).1).2.trans (h.kn j d).2⟩,λi g=>k.wt i (h.wt i g),λj d=>by
   rcases k.new j d with e|e
   .rcases h.new j e with f|f
    .exact .inl f
    .exact .inr (k.wt _ f)
   .exact .inr e⟩
theorem Uj.more{s c:BS}{i e:Int}(_:0<=i)(d:s.kn.getD i.toNat false=true)(h:Uj W H has s i e)(m:More s c):Uj W H has c i e:=by intro f;obtain⟨g,j⟩:=h f;have a:=m.kn _ g;have b:=m.kn _ d;exact⟨a.1,by rw[a.2,b.2,j]⟩
structure BI (W H:Int) (s:BS):Prop where
 ol:s.out.length=AF W H
 kl:s.kn.length=AF W H
 wt:∀i∈s.wt,(0<=i/\i<4*W*H)/\s.kn.getD i.toNat false=true
 kn:∀j:Nat,s.kn.getD j false=true->vM (s.out.getD j AG.d)/\HR (s.out.getD j AG.d) (AK W H j) (s.kn.count true)
theorem BI.lt{s:BS}(h:BI W H s){j:Nat}(a:s.kn.getD j false=true):j<AF W H:=by rw[<-h.kl];apply Classical.byContradiction;intro hc;rw[Jg,Ly Dz]at a;cases a
theorem c0k{m:Mv}{c:Cl}{K L:Int}(h:HR m c K)(hl:K<=L):HR m c L:=by unfold HR at*;omega
theorem Qh{i:Int}(hs:AV W H=0)(a:0<=i)(h:i<4*W*H):(0<=(AK W H i).x/\(AK W H i).x<=300)/\(0<=(AK W H i).y/\(AK W H i).y<=300)/\0<=(AK W H i).q/\(AK W H i).q<=3:=by have:=LZ hs a h;have:=JU hs;omega
theorem b8j{s f:BS}{i e:Int}(hs:AV W H=0)(h:BI W H s)(r:0<=i)(hi:i<4*W*H)(t:s.kn.getD i.toNat false=true)(g:0<=e/\e<3)(b:NF W H has s i e=some f):
 BI W H f/\More s f/\Uj W H has f i e:=by
 unfold NF at b;split at b;rotate_left
 .rename_i k;cases b;exact⟨h,.refl _,λe=>absurd e k⟩
 rename_i k;obtain⟨⟨z,A⟩,B⟩:=GU hs r hi g k;have hN:=CG hs;have jd:(AE W H i e).toNat<AF W H:=Dz;have w:=Qh hs r hi;simp only at b;by_cases u:s.kn.getD (AE W H i e).toNat false=true
 .rw[u]at b;simp only[N9]at b;split at b
  .rename_i C;cases b;exact⟨h,.refl _,λ_=>⟨u,C⟩⟩
  .cases b
 .have o:s.kn.getD (AE W H i e).toNat false=false:=by simpa using u
  rw[o]at b;simp only[cond_false]at b;rw[Ji (by rw[OE Gb,Ji rfl])]at b;cases b;have E:i.toNat≠(AE W H i e).toNat:=λv=>by rw[v,o]at t;cases t
  have F:(s.kn.set (AE W H i e).toNat true).count true=s.kn.count true+1:=by have c1:=b2z (l:=s.kn) (n:=(AE W H i e).toNat) Fa o;have c2:=b0m s.kn;have G:=b0m (s.kn.set (AE W H i e).toNat true);rw[Li]at G;omega
  have hcN:s.kn.count true<=1024:=by have:=b0m s.kn;have:=h.kl;omega
  obtain⟨vm,q⟩:=h.kn _ t;rw[show ((i.toNat:Nat):Int)=i from Dz]at q;have x:=b2p (has:=has) (m:=s.out.getD i.toNat AG.d) hs r hi g k;have y:vM (KF W H has (s.out.getD i.toNat AG.d) i e)/\HR (KF W H has (s.out.getD i.toNat AG.d) i e) (AK W H (AE W H i e)) (s.kn.count true+1):=by
   rw[B];cases hc:has (ED W H i e)with
   |false=>
    rw[x,hc];exact⟨vm,c8u g w vm q⟩
   |true=>
    rw[x,hc];simp only[N9];obtain⟨g1,I,_⟩:=c3z g w vm q Dz;refine⟨g1,?_⟩;unfold HR at q⊢;rw[I];omega
  refine⟨⟨by simpa using h.ol,by simpa using h.kl,λj a=> ?_,λj a=> ?_⟩,⟨λj a=> ?_,λj a=>List.mem_append_left _ a,λj a=> ?_⟩,λ_=>⟨?_,?_⟩⟩
  .rcases K6.1 a with a|a
   .refine⟨(h.wt j a).1,?_⟩;rw[OE Fa];split
    .rfl
    .exact(h.wt j a).2
   .rw[Kb.1 a];refine⟨⟨z,A⟩,?_⟩;rw[OE Fa,Ji rfl]
  .rw[OE Fa]at a;rw[OE Gb,F];by_cases c:j=(AE W H i e).toNat
   .rw[Ji c,show (j:Int)=AE W H i e from Dz];exact⟨y.1,c0k y.2 Dz⟩
   .rw[Jj c]at a⊢;exact⟨(h.kn j a).1,c0k (h.kn j a).2 Dz⟩
  .have c:j≠(AE W H i e).toNat:=λv=>by rw[v,o]at a;cases a
   rw[OE Fa,Jj c,OE Gb,Jj c];exact⟨a,rfl⟩
  .rw[OE Fa]at a;by_cases c:j=(AE W H i e).toNat
   .exact .inr (List.mem_append_right _ (Kb.2 Dz))
   .rw[Jj c]at a;exact .inl a
  .rw[OE Fa,Ji rfl]
  .rw[OE Gb,Ji rfl,OE Gb,Jj E]
theorem b3j{i:Int}(hs:AV W H=0)(c:0<=i)(hi:i<4*W*H):∀(l:List Int) {s a:BS},(∀e∈l,0<=e/\e<3)->BI W H s->s.kn.getD i.toNat false=true->Of W H has i l s=some a->
 BI W H a/\More s a/\∀e∈l,Uj W H has a i e
 | [],s,a,_,h,_,b=>by cases b;exact⟨h,.refl _,λ_ d=>by cases d⟩
 |e::l,s,a,k,h,f,b=>by
  simp only[Of,Js]at b;obtain⟨s1,n,o⟩:=b;obtain⟨q,g,r⟩:=b8j hs h c hi f (k e E2) n;obtain⟨t,m,u⟩:=b3j hs c hi l (λe d=>k e (by simp[d])) q (g.kn _ f).1 o;refine⟨t,g.trans m,λv j=> ?_⟩;rcases Jv.1 j with rfl|j
  .exact r.more c (g.kn _ f).1 m
  .exact u v j
def Wp(W H:Int)(has:List Int->Bool)(s:BS):Prop:=∀j:Nat,s.kn.getD j false=true->(j:Int)∈s.wt\/∀e,0<=e/\e<3->Uj W H has s j e
theorem c1s(hs:AV W H=0):∀(f:Nat) {s:BS} {l:List Mv},BI W H s->Wp W H has s->Kl W H has f s=some l->∃b,b.out=l/\BI W H b/\b.wt=[]/\Wp W H has b/\∀j:Nat,s.kn.getD j false=true->b.kn.getD j false=true/\b.out.getD j AG.d=s.out.getD j AG.d
 |0,s,l,h,m,a=>by
  unfold Kl at a;split at a
  .rename_i e;cases a;exact⟨s,rfl,h,e,m,λ_ h=>⟨h,rfl⟩⟩
  .cases a
 |f+1,s,l,h,m,a=>by
  cases hw:s.wt with
  |nil=>
   rw[c1i hw]at a;cases a;exact⟨s,rfl,h,hw,m,λ_ h=>⟨h,rfl⟩⟩
  |cons i r=>
   rw[b9n hw]at a;simp only[Js]at a;obtain⟨w,x,y⟩:=a;have n:=h.wt i (by rw[hw];simp);have z:BI W H ⟨s.out,s.kn,r⟩:=⟨h.ol,h.kl,λj g=>h.wt j (by rw[hw];exact Kd _ g),h.kn⟩
   obtain⟨A,k,o⟩:=b3j hs n.1.1 n.1.2 [0,1,2] E2 z n.2 x;have q:Wp W H has w:=by
    intro j g;by_cases u:(j:Int)=i
    .right;rw[u];intro e t;rcases HI t with rfl|rfl|rfl
     .exact o 0 E2
     .exact o 1 E2
     .exact o 2 E2
    .rcases k.new j g with bi|bi
     .rcases m j bi with c|c
      .rw[hw]at c;rcases Jv.1 c with c|c
       .exact absurd c u
       .exact .inl (k.wt _ c)
      .right;intro e t;have:=c e t;exact Uj.more (s:=⟨s.out,s.kn,r⟩) Dz F9 this k
     .exact .inl bi
   obtain⟨b,c1,B,C,E,v⟩:=c1s hs f A q y;exact⟨b,c1,B,C,E,λj g=>⟨(v j (k.kn j g).1).1,(v j (k.kn j g).1).2.trans (k.kn j g).2⟩⟩
theorem b3k{kn:Nat->Bool}(hs:AV W H=0)(step:∀(i:Nat) (e:Int),0<=e/\e<3->kn i=true->AR W H i e=0->kn (AE W H i e).toNat=true)(z:kn 0=true):∀j:Nat,j<AF W H->kn j=true:=by
 have hN:=CG hs;have QB:∀(j:Nat) (e:Int),j<AF W H->0<=e/\e<3->AR W H j e=0->kn (AE W H j e).toNat=true->kn j=true:=by intro j e A l a n;obtain⟨⟨n0,n1⟩,_⟩:=GU hs (i:=j) Dz Dz l a;obtain⟨B,C⟩:=Rh hs (i:=j) Dz Dz l a;have:=step (AE W H j e).toNat e l n (by rw[show (((AE W H j e).toNat:Nat):Int)=AE W H j e from Dz];exact B);rw[show (((AE W H j e).toNat:Nat):Int)=AE W H j e from Dz,C]at this;simpa using this
 have o:∀m:Nat,4*m<AF W H->∀q:Nat,q<4->kn (4*m+q)=true:=by
  intro m;induction m using Nat.strongRecOn with
  |ind m x=>
   intro hm;have hw2:=JU hs;have d:∀q:Nat,q<4->(4*m+q:Nat)<AF W H:=λq f=>by
    have:4∣AF W H:=by unfold AF;rw[Md];have:0<W*H:=Int.mul_pos Dz Dz;exact⟨(W*H).toNat,Dz⟩
    obtain⟨k,n⟩:=this;omega
   have g:∀q:Nat,q<4->AK W H ((4*m+q:Nat):Int)=⟨(m:Int)%W,(m:Int)/W,q⟩:=λq f=>by have:=d q f;rw[KZ hs Dz Dz];have c:((4*m+q:Nat):Int)/4=m:=Dz;have t:((4*m+q:Nat):Int)%4=q:=Dz;rw[c,t]
   have a1:=N6 (m:Int) (show W≠0 from Dz);have a2:=N2 (m:Int) (show 0<W from Dz);have a3:0<=(m:Int)/W:=Int.ediv_nonneg Dz Dz;have E:=Int.mul_ediv_add_emod (m:Int) W;have a6:(m:Int)/W*W=W*((m:Int)/W):=Int.mul_comm _ _;have y:=LZ hs (i:=((4*m:Nat):Int)) Dz Dz;have c0:=g 0 Dz;rw[Mp]at c0;rw[c0]at y;simp only at y;have one:∃q:Nat,q<4/\kn (4*m+q)=true:=by
    by_cases u:m=0
    .subst u;exact⟨0,Dz,z⟩
    by_cases hx:0<(m:Int)%W
    .refine⟨3,Dz,?_⟩;have b:AR W H ((4*m+3:Nat):Int) 0=0/\(AE W H ((4*m+3:Nat):Int) 0).toNat=4*(m-1)+1:=by
      have a:=XH hs (i:=((4*m+3:Nat):Int)) (e:=0) Dz (by have:=d 3 Dz;omega) Dz;rw[g 3 Dz]at a;generalize AE W H ((4*m+3:Nat):Int) 0=v at*;generalize AR W H ((4*m+3:Nat):Int) 0=F at*;simp[AO,EP,ER,EY,tb]at a;have c:=a.1.2 Dz;exact⟨c,by rw[a.2 c];omega⟩
     refine QB (4*m+3) 0 (d 3 Dz) Dz b.1 ?_;rw[b.2];exact x (m-1) Dz Dz 1 Dz
    .refine⟨0,Dz,?_⟩;have hy:0<(m:Int)/W:=by
      rcases Int.lt_or_le 0 ((m:Int)/W)with h|h
      .exact h
      .have:(m:Int)/W=0:=Dz;rw[this]at E;omega
     have hWm:W<=m:=by have:W*1<=W*((m:Int)/W):=Int.mul_le_mul_of_nonneg_left Dz Dz;omega
     have t:(-1+(m:Int)/W)*W=(m:Int)/W*W-W:=by rw[Int.add_mul];omega
     have b:AR W H ((4*m:Nat):Int) 0=0/\(AE W H ((4*m:Nat):Int) 0).toNat=4*(m-W.toNat)+2:=by have a:=XH hs (i:=((4*m:Nat):Int)) (e:=0) Dz Dz Dz;rw[c0]at a;generalize AE W H ((4*m:Nat):Int) 0=v at*;generalize AR W H ((4*m:Nat):Int) 0=F at*;simp[AO,EP,ER,EY,tb]at a;have c:=a.1.2 Dz;exact⟨c,by rw[a.2 c,t];omega⟩
     refine QB (4*m) 0 Dz Dz b.1 ?_;rw[b.2];exact x (m-W.toNat) Dz Dz 2 Dz
   have w:∀q:Nat,q<4->kn (4*m+q)=true->kn (4*m+(q+1)%4)=true:=by
    intro q f n;have r:∀e:Int,0<=e/\e<3->(AO ⟨(m:Int)%W,(m:Int)/W,q⟩ e=⟨(m:Int)%W,(m:Int)/W,((q+1)%4:Nat)⟩)->kn (4*m+(q+1)%4)=true:=by intro e l G;have a:=XH hs (i:=((4*m+q:Nat):Int)) (e:=e) Dz (by have:=d q f;omega) l;rw[g q f,G]at a;simp only at a;have c:AR W H ((4*m+q:Nat):Int) e=0:=a.1.2 Dz;have:=step (4*m+q) e l n c;rw[a.2 c]at this;rwa[show (4*((m:Int)/W*W+(m:Int)%W)+(((q+1)%4:Nat):Int)).toNat=4*m+(q+1)%4 from Dz]at this
    rcases(show q=0\/q=1\/q=2\/q=3 from Dz)with rfl|rfl|rfl|rfl
    .exact r 1 Dz Gz
    .exact r 2 Dz Gz
    .exact r 1 Dz Gz
    .exact r 2 Dz Gz
   obtain⟨q,f,n⟩:=one;have k1:=w q f n;have k2:=w _ Dz k1;have k3:=w _ Dz k2;intro s dq;rcases(show s=q\/s=(q+1)%4\/s=((q+1)%4+1)%4\/s=(((q+1)%4+1)%4+1)%4 from Dz)with e|e|e|e<;>(rw[e];assumption)
 intro j A;have:=o (j/4) Dz (j%4) Dz;rwa[show 4*(j/4)+j%4=j from Dz]at this
theorem d3q{s:BS}(hs:AV W H=0)(_:BI W H s)(b:s.wt=[])(c:Wp W H has s)(d:s.kn.getD 0 false=true):∀j:Nat,j<AF W H->s.kn.getD j false=true:=by
 refine b3k (kn:=λj=>s.kn.getD j false) hs (λi e f g k=> ?_) d;rcases c i g with a|a
 .rw[b]at a;cases a
 .exact(a e f k).1
end
theorem b5q{p:Pt}(hs:AV p.W p.H=0)(h:JM p=0):(BC p).length=AF p.W p.H/\∀i:Nat,i<AF p.W p.H->
 (vM ((BC p).getD i AG.d)/\HR ((BC p).getD i AG.d) (AK p.W p.H i) 1024)/\∀e:Int,0<=e/\e<3->AR p.W p.H i e=0->(BC p).getD (AE p.W p.H i e).toNat AG.d=KF p.W p.H (EU p.l) ((BC p).getD i AG.d) i e:=by
 have hN:=CG hs;have r:GH p=AF p.W p.H:=rfl;unfold JM at h;cases hr:OW p with
 |none=>rw[hr]at h;cases h
 |some l=>
  have s:BC p=l:=by simp[BC,hr]
  rw[s];unfold OW at hr;rw[r]at hr;have t:BI p.W p.H (FY (AF p.W p.H)):=by
   refine⟨Fu,Fu,λi b=> ?_,λj k=> ?_⟩
   .have:i=0:=by simpa[FY]using b
    subst this;refine⟨Dz,?_⟩;show ((List.replicate _ false).set 0 true).getD 0 false=true;rw[Oi _ _ Dz];rfl
   .have c:((List.replicate (AF p.W p.H) false).set 0 true).getD j false=true:=k;rw[Oi _ _ Dz]at c;have:j=0:=L0 c;subst this;have Pd:1<=(FY (AF p.W p.H)).kn.count true:=by
     have:true∈(FY (AF p.W p.H)).kn:=by show true∈(List.replicate (AF p.W p.H) false).set 0 true;exact List.mem_set Eb _
     exact List.count_pos_iff.2 this
    show vM ((List.replicate _ AG.d).getD 0 AG.d)/\HR ((List.replicate _ AG.d).getD 0 AG.d) _ _;rw[Xo];have m:vM AG.d:=⟨E4,E4⟩
    refine⟨m,?_⟩;have V1:=LZ hs (i:=((0:Nat):Int)) Dz Dz;have hw:=JU hs;unfold HR;rw[JR m Dz];have u:AK p.W p.H ((0:Nat):Int)=⟨0,0,0⟩:=by rw[KZ hs Dz Dz];simp
    rw[u];have d0:AG.d=⟨0,0,0⟩:=rfl;rw[d0];simp[sq];try omega
  have v:Wp p.W p.H (EU p.l) (FY (AF p.W p.H)):=by intro j k;have c:((List.replicate (AF p.W p.H) false).set 0 true).getD j false=true:=k;rw[Oi _ _ Dz]at c;have:j=0:=L0 c;subst this;exact .inl Fu
  obtain⟨n,c1,f,o,q,w⟩:=c1s hs _ t v hr;have k0:n.kn.getD 0 false=true:=(w 0 (by show ((List.replicate _ false).set 0 true).getD 0 false=true;rw[Oi _ _ Dz];rfl)).1
  have a:=d3q hs f o q k0;rw[<-c1];refine⟨f.ol,λi b=>⟨⟨(f.kn i (a i b)).1,c0k (f.kn i (a i b)).2 ?_⟩,λe x y=> ?_⟩⟩
  .have:=b0m n.kn;have:=f.kl;omega
  .rcases q i (a i b)with g|g
   .rw[o]at g;cases g
   .have:=(g e x y).2;simpa using this
def Ri:List SV->Option (Prop×Pt×Mv)
 | [x,.agg [.int .u8 t,.int .i64 a,.int .i64 b]]=>(Pl x).map λq=>((q.1/\∀c∈q.2.l,AD .u8 c.e)/\0<=t/\t<=255,q.2,⟨t,a,b⟩)
 |_=>none
def prOK(p:Pt)(r:Mv):Prop:=(p.l.length<=100000/\∀c∈p.l,AD .u8 c.e)/\0<=r.t/\r.t<=255
theorem c19{l:List SV}{q:Prop}{p:Pt}{r:Mv}(h:Ri l=some (q,p,r))(b:q):BK l [KC p,Pb r]/\prOK p r:=by
 unfold Ri at h;split at h
 .simp only[It]at h;obtain⟨⟨a,p'⟩,hx,rfl,rfl,rfl⟩:=h;obtain⟨c,d⟩:=RC hx b.1.1;exact⟨⟨c,Hs,Jm⟩,⟨d,b.1.2⟩,b.2⟩
 .cases h
theorem f9t{k:AH}{a:Pt->Mv->SV}(b:∀l,k l=(Ri l).map λq=>(q.1,a q.2.1 q.2.2)):Qv ⟨Pt×Mv,λ(p,r)=>[KC p,Pb r],λ(p,r)=>prOK p r,λ(p,r)=>a p r⟩ k:=by intro args pre s h c;rw[b]at h;simp only[It]at h;obtain⟨⟨q,p,r⟩,hx,rfl,rfl⟩:=h;obtain⟨d,e⟩:=c19 hx c;exact⟨(p,r),d,e,rfl⟩
def d5u(p:Pt)(r:Mv):SV:=.tup [.sl 3 (Bl p r).length (AG.row (Bl p r)) none,.int .i64 (CH p r)]
def c6i:AH:=λl=>(Ri l).map λq=>(q.1,d5u q.2.1 q.2.2)
def g11:Fam:=⟨Pt×Mv,λ(p,r)=>[KC p,Pb r],λ(p,r)=>prOK p r,λ(p,r)=>d5u p r⟩
theorem g0k:PS 109 c6i:=by
 refine con [(79,Vw)] (by simpa using f8h) g11 (λ_ _=>none) c6i (f9t (λ_=>rfl)) ?_ Tryz.func109 E1 E1 E1 ?_
 .exact Bz
 .rintro⟨p,r⟩ hp;replace hp:prOK p r:=hp;exact X1b
def d32(p:Pt)(r:Mv):SV:=.tup [.sl 3 (Al p r).length (CJ.row (Al p r)) none,.int .i64 (CH p r)]
def WF:AH:=λl=>(Ri l).map λq=>(q.1,d32 q.2.1 q.2.2)
def f9e:Fam:=⟨Pt×Mv,λ(p,r)=>[KC p,Pb r],λ(p,r)=>prOK p r,λ(p,r)=>d32 p r⟩
theorem c0b:PS 29 WF:=by
 refine con [(79,Vw)] (by simpa using f8h) f9e (λ_ _=>none) WF (f9t (λ_=>rfl)) ?_ Tryz.func29 E1 E1 E1 ?_
 .exact Bz
 .rintro⟨p,r⟩ hp;replace hp:prOK p r:=hp;exact X1b
def SI(m:Mv):Bool:= !(and (decide (Do m.t m.x m.y=0)) (decide (4<=m.t)))
def FW(p:Pt)(r:Mv):List Bool:=(Bl p r).map SI
theorem c3d{p:Pt}{r:Mv}(b:0<=r.t):∀m∈Bl p r,0<=m.t/\m.t<=255:=by
 intro m a;unfold Bl at a;split at a
 .obtain⟨c,d,rfl⟩:=Jx.1 a;exact c7z ((c17 p).2.1 c d).1 b
 .simp at a
theorem c5x{p:Pt}{r:Mv}:(Bl p r).length<=1024:=by
 unfold Bl;split
 .rename_i h;have hs:BN p=0:=by
   unfold CH at h;split at h
   .assumption
   .rename_i a;exact absurd h a
  have:=(c17 p).2.2;have:=b30 (FN hs).1;simp only[Kh];omega
 .simp
def rUp(p:Pt)(r:Mv):SV:=.tup [.sl 1 (FW p r).length (EJ.row (FW p r)) none,.int .i64 (CH p r)]
def VY:AH:=λl=>(Ri l).map λq=>(q.1,rUp q.2.1 q.2.2)
def FUp:Fam:=⟨Pt×Mv,λ(p,r)=>[KC p,Pb r],λ(p,r)=>prOK p r,λ(p,r)=>rUp p r⟩
def IUp:Pt×Mv->Nat->Option Inv
 |(p,r),6=>some {β:=Nat,ok:=λi=>i<=(Bl p r).length,st:=λi=>⟨[⟨27,none,.int .i64 i⟩,⟨26,none,.int .i64 (Bl p r).length⟩,⟨25,none,.sl 3 (Bl p r).length (AG.row (Bl p r)) none⟩,⟨9,none,.osl 2⟩,⟨5,none,.int .i64 0⟩],
    [.cells 34 [.int .i64 p.W,.int .i64 p.H,.sl 3 p.l.length (Eo p.l) none],.cells 36 [.int .u8 r.t,.int .i64 r.x,.int .i64 r.y],.row 4 1 (Bl p r).length (λj=>EJ.sv (upto (λj=>SI ((Bl p r).getD j AG.d)) (λ_=>false) i j)) none]⟩,μ:=λi=>(Bl p r).length-i}
 |_,_=>none
theorem pUp:PS 26 VY:=by
 refine con [(79,Vw),(80,c7f)] (by simpa using⟨f8h,pFlips⟩) FUp IUp VY (f9t (λ_=>rfl)) ?_ Tryz.func26 E1 E1 E1 ?_
 .exact Bz
 .rintro⟨p,r⟩ hp;replace hp:prOK p r:=hp;have k:=@c5x p r;have ph:(Bl ⟨p.W,p.H,p.l⟩ ⟨r.t,r.x,r.y⟩).length<=1024:=k;have m:CH p r≠0->Bl p r=[]:=λh=>(b2c h).1;have f:(FW p r).length=(Bl p r).length:=by simp[FW]
  have b:∀j,j<(Bl p r).length->(FW p r).getD j EJ.d=SI ((Bl p r).getD j AG.d):=λj a=>by simp[FW,a]
  refine X0a _ ?_;(repeat' first|constructor|intro h)<;>refine Lm ?_
  all_goals(try simp only[CE]at*)
  all_goals(first
   |exact Bb
   |(refine⟨Dz,Dz,Rj E1 Dz Dz,Dz⟩)
   |(rw[f,m (by simpa using ‹(!decide (CH _ _=0))=true›)];rfl)
   |skip)
  refine⟨(0:Nat),Jw _,?_,?_⟩
  .refine X0a _ ?_;(repeat' first|constructor|intro h)<;>refine Lm ?_
   all_goals(first
    |exact A8
    |(intro j a;show _=EJ.sv (upto _ _ 0 j);rw[b36];rfl)
    |skip)
  .intro i g;replace g:i<=(Bl p r).length:=g;have n:i<(Bl p r).length->0<=((Bl p r).getD i AG.d).t/\((Bl p r).getD i AG.d).t<=255:=λh=>by
    rw[Jg,Jh h];exact c3d hp.2.1 _ (Kj h)
   refine X0a _ ?_;(repeat' first|constructor|intro h)<;>refine Lm ?_
   all_goals(try simp only[Ir,b7j _ _ (Jp i),Is]at*)
   all_goals(first
    |omega
    |exact n Dz
    |exact A6
    |(show i<(Bl p r).length;omega)
    |(refine⟨i+1,Eg,Ed,?_⟩)
    |(have e:CH p r=0:=by assumption
      exact e.symm)
    |exact f.symm
    |(intro j a;show EJ.sv _=EJ.sv _;rw[YF _ _ Dz,b j Dz])
    |skip)
   all_goals refine X0a _ ?_;(repeat' first|constructor|intro h)<;>refine Lm ?_
   all_goals(try simp only[])
   all_goals(first
    |exact An
    |(intro j a;exact b2x EJ (λ_ _=>rfl) (λ_ _=>rfl) (λj=>SI ((Bl p r).getD j AG.d)) _ i j)
    |skip)
theorem VU{p:Pt}{i e:Int}(h:BN p=0)(r:AR p.W p.H i e=0):EU p.l (ED p.W p.H i e)=true↔AZ p i e≠0:=by
 obtain⟨hs,s,h1,h2⟩:=FN h;have t:=WG h;have u:JG p i e=0:=by simp[JG,h,r]
 have v:MP p i e=ME p.l (EI p.W p.H i e) (FI p.W p.H i e):=by simp[MP,u]
 unfold AZ ED;rw[v];generalize EI p.W p.H i e=a;generalize FI p.W p.H i e=b;constructor
 .intro w;obtain⟨x,hx,y⟩:=K1.1 w;obtain⟨j,hj,rfl⟩:=Kg.1 hx;have g:a=p.l[j].c/\b=p.l[j].e:=by simpa[HL]using y
  have d:p.l.getD j d0=p.l[j]:=Ht;have m:KH (p.l.getD j d0) a b=0:=by
   rw[d];unfold KH;try unfold IW
   rw[g.1,g.2];simp
  have n:JH p.l a b=j:=c9y p.l j Dz (λk z=>by have:=t k j z hj;rw[d,<-g.1,<-g.2]at this;exact this) (λ_=>Dz)
  have f:ME p.l a b=true:=by unfold ME;rw[n];rw[d]at m;simp[hj,m]
  rw[f,n];simp only[N9];have:=K2.1 s p.l[j] (Kj hj);rw[d];intro A;simp[OH,RW,A]at this
 .intro q;cases f:ME p.l a b with
  |false=>rw[f]at q;exact absurd rfl q
  |true=>
   unfold ME at f;simp only[J3]at f;have hj:JH p.l a b<p.l.length:=Dz;have d:p.l.getD (JH p.l a b) d0=p.l[JH p.l a b]:=Ht;refine K1.2 ⟨p.l[JH p.l a b],Kj hj,?_⟩;have o:=f.2;rw[d]at o;have:a=p.l[JH p.l a b].c/\b=p.l[JH p.l a b].e:=by
    unfold KH at o;try unfold IW at o
    split at o<;>omega
   simp[HL,<-this.1,<-this.2]
structure PlOK (p:Pt) (r:Mv):Prop where
 pl:(Bl p r).length=AF p.W p.H
 il:(Al p r).length=AF p.W p.H
 vm:∀i:Nat,i<AF p.W p.H->vM ((Bl p r).getD i AG.d)
 im:∀i:Nat,i<AF p.W p.H->(Al p r).getD i CJ.d=EA ((Bl p r).getD i AG.d) (AK p.W p.H i)/\vC ((Al p r).getD i CJ.d)
 pass:∀(i:Nat) (e:Int),i<AF p.W p.H->0<=e/\e<3->AR p.W p.H i e=0->AZ p i e=0->(Bl p r).getD (AE p.W p.H i e).toNat AG.d=(Bl p r).getD i AG.d
 loop:∀(i:Nat) (e:Int),i<AF p.W p.H->0<=e/\e<3->AR p.W p.H i e=0->AZ p i e≠0->
  (Al p r).getD (AE p.W p.H i e).toNat CJ.d=(Al p r).getD i CJ.d/\EA ((Bl p r).getD (AE p.W p.H i e).toNat AG.d) (AK p.W p.H i)=EA ((Bl p r).getD i AG.d) (AK p.W p.H (AE p.W p.H i e))
theorem Og{p:Pt}{r:Mv}(h:CH p r=0):BN p=0/\Do r.t r.x r.y=0/\JM p=0/\∀i,i<(BC p).length->KE p r i=0:=by
 unfold CH at h;split at h
 .rename_i a;split at h
  .rename_i c;split at h
   .rename_i b;exact⟨a,c,b,λi hi=>b6r h i Dz Dz⟩
   .rename_i b;exact absurd h b
  .cases h
 .rename_i a;exact absurd h a
theorem g23{m:Mv}{c:Cl}{K:Int}(a:vM m)(b:(-4200<=c.x/\c.x<=4200)/\(-4200<=c.y/\c.y<=4200)/\0<=c.q/\c.q<=3)(d:HR m c K)(hK:K<=4096):vC (EA m c):=by unfold HR at d;refine⟨Dz,Dz,?_⟩;rw[JR a b];exact f4s (GJ a) b.2.2
theorem UO{p:Pt}{r:Mv}(B:0<=r.t)(h:CH p r=0):PlOK p r:=by
 obtain⟨E,T,U,V⟩:=Og h;have hs:=(FN E).1;have hN:=CG hs;obtain⟨X,rel⟩:=b5q hs U;obtain⟨pl,m⟩:=Xz h;obtain⟨O,P⟩:=b0q h;rw[X]at pl m O P;have vr:vM r:=⟨B,T⟩
 have f:∀i:Nat,i<AF p.W p.H->Gl ((BC p).getD i AG.d).t ((BC p).getD i AG.d).x ((BC p).getD i AG.d).y r.t r.x r.y=0/\TG p.W p.H (JA ((BC p).getD i AG.d) r) i=0:=by
  intro i a;have:=V i Dz;unfold KE at this;split at this
  .rename_i z;exact⟨z,this⟩
  .rename_i z;exact absurd this z
 have g:∀(i:Nat) (c:Cl) (K:Int),i<AF p.W p.H->(0<=c.x/\c.x<=300)/\(0<=c.y/\c.y<=300)/\0<=c.q/\c.q<=3->HR ((BC p).getD i AG.d) c K->K<=4096->EA (JA ((BC p).getD i AG.d) r) c=EA r (EA ((BC p).getD i AG.d) c):=by intro i c K a u j Y;obtain⟨⟨A,_⟩,_⟩:=rel i a;exact c09 A.1 B (f i a).1 Ga (g23 A Dz j Y)
 have b:∀i:Int,0<=i->i<4*p.W*p.H->(0<=(AK p.W p.H i).x/\(AK p.W p.H i).x<=300)/\(0<=(AK p.W p.H i).y/\(AK p.W p.H i).y<=300)/\0<=(AK p.W p.H i).q/\(AK p.W p.H i).q<=3:=λi Z z=>Qh hs Z z;have o:∀i:Nat,i<AF p.W p.H->(Al p r).getD i CJ.d=EA ((Bl p r).getD i AG.d) (AK p.W p.H i)/\vC ((Al p r).getD i CJ.d):=by
  intro i a;rw[P i a,m i a];have v:=(f i a).2;have Q:Xt p r i=EA (LY p r i) (AK p.W p.H i):=by unfold Xt imC LY EA AK;simp only[v,keep,L1]
  refine⟨Q,?_⟩;rw[Q];have F:vM (LY p r i):=(Wz (rel i a).1.1.1 B (f i a).1).2.2.2;unfold TG HM at v;have hw:=b i Dz Dz;split at v
  .split at v
   .rename_i h3;have G:BG (EA (LY p r i) (AK p.W p.H i)).x (EA (LY p r i) (AK p.W p.H i)).y (EA (LY p r i) (AK p.W p.H i)).q=0:=h3;unfold BG at G;split at G
    .rename_i h5;refine⟨Dz,Dz,?_⟩;rw[JR F Dz];exact f4s (GJ F) hw.2.2
    .cases G
   .cases v
  .cases v
 refine⟨pl,O,λi a=> ?_,o,λi e a n j I=> ?_,λi e a n j I=> ?_⟩
 .rw[m i a];exact(Wz (rel i a).1.1.1 B (f i a).1).2.2.2
 .obtain⟨⟨J,L⟩,C⟩:=GU hs (i:=i) Dz Dz n j;have u:EU p.l (ED p.W p.H i e)=false:=by
   cases u:EU p.l (ED p.W p.H i e)with
   |false=>rfl
   |true=>exact absurd I ((VU E j).1 u)
  have:=(rel i a).2 e n j;rw[b2p hs Dz Dz n j,u]at this;rw[m _ Dz,m i a];unfold LY;rw[this];rfl
 .obtain⟨⟨J,L⟩,C⟩:=GU hs (i:=i) Dz Dz n j;have u:=(VU E j).2 I;have hx:=(rel i a).2 e n j;rw[b2p hs Dz Dz n j,u]at hx;simp only[N9]at hx;obtain⟨⟨A,k⟩,_⟩:=rel i a;have w:(AE p.W p.H i e).toNat<AF p.W p.H:=Dz;obtain⟨⟨F,nr2⟩,_⟩:=rel _ w;obtain⟨g1,R,M⟩:=c3z n (b i Dz Dz) A k Dz;rw[<-hx]at g1 R M;have N:=c8u n (b i Dz Dz) A k;have s:(((AE p.W p.H i e).toNat:Nat):Int)=AE p.W p.H i e:=Dz;have q1:HR ((BC p).getD (AE p.W p.H i e).toNat AG.d) (AK p.W p.H i) 1025:=by
   unfold HR at N⊢;rw[M];exact N
  have S:EA ((BC p).getD (AE p.W p.H i e).toNat AG.d) (AK p.W p.H (AE p.W p.H i e))=EA ((BC p).getD i AG.d) (AK p.W p.H i):=by rw[C];exact R
  have q3:HR ((BC p).getD (AE p.W p.H i e).toNat AG.d) (AK p.W p.H (AE p.W p.H i e)) 1024:=by unfold HR at k⊢;rw[S];exact k
  refine⟨?_,?_⟩
  .rw[(o _ w).1,(o i a).1,s,m _ w,m i a];unfold LY;rw[g _ _ 1024 w (b _ J L) q3 Dz,S,g i _ 1024 a (b i Dz Dz) k Dz]
  .rw[m _ w,m i a];unfold LY;rw[g _ _ 1025 w (b i Dz Dz) q1 Dz,M,g i _ 1025 a (b _ J L) (by rw[C];exact N) Dz,C]
def PL(P:Int->Bool)(l:List Int):Int:=match l.findIdx? P with
 |some i=>i
 |none=> -1
theorem c0m{P:Int->Bool}{l:List Int}{i:Nat}(hi:i<l.length)(h:∀j,j<i->P (l.getD j 0)=false)(a:P (l.getD i 0)=true):PL P l=i:=by
 have:l.findIdx? P=some i:=by
  rw[L7];refine⟨hi,?_,λj b=> ?_⟩
  .simpa[Jg,hi]using a
  .have:=h j b;have c:j<l.length:=Dz;simpa[Jg,c]using this
 simp[PL,this]
theorem d9k{P:Int->Bool}{l:List Int}(h:∀j,j<l.length->P (l.getD j 0)=false):PL P l= -1:=by
 have:l.findIdx? P=none:=by rw[Lu];intro x hx;obtain⟨j,a,rfl⟩:=Kg.1 hx;have:=h j a;simpa[Jg,a]using this
 simp[PL,this]
theorem b9f(P:Int->Bool)(l:List Int):decide (0<=PL P l)=l.any P:=by
 unfold PL;cases h:l.findIdx? P with
 |none=>
  have:=Lu.1 h;have:l.any P=false:=by rw[K2];intro x hx;simpa using this x hx
  rw[this];rfl
 |some i=>
  have:=L7.1 h;obtain⟨a,b,_⟩:=this;have:l.any P=true:=K1.2 ⟨_,Kj a,b⟩;rw[this];simp
def capN:SV->Option (Prop×Int)
 |.rel 1 1 f 0 0=>match f 0 with
  | [.int .i64 n]=>some (f=(λ_=>[.int .i64 n]),n)
  |_=>none
 |_=>none
def Xh(n:Int):SV:=.rel 1 1 (λ_=>[.int .i64 n]) 0 0
theorem c5q{s:SV}{q:Prop}{n:Int}(h:capN s=some (q,n))(a:q):s=Xh n:=by
 unfold capN at h;split at h
 .split at h
  .cases h;rw[a];rfl
  .cases h
 .cases h
def On(n v:Int):Bool:=decide (v<0)||decide (v>=n)
def c01:AH
 | [.int .i64 v,s]=>(capN s).map λn=>(n.1,.bool (On n.2 v))
 |_=>none
def g2x:Fam:=⟨Int×Int,λ(v,n)=>[.int .i64 v,Xh n],λ_=>True,λ(v,n)=>.bool (On n v)⟩
theorem g4h:PS 205 c01:=by
 refine con [] E2 g2x (λ_ _=>none) c01 ?_ ?_ Tryz.func205 E1 E1 E1 ?_
 .intro args pre s h a;unfold c01 at h;split at h
  .rename_i v x;simp only[Jq]at h;obtain⟨⟨q,n⟩,hx,b⟩:=h;cases b;rw[c5q hx a];exact⟨(v,n),⟨Ea,by simp[Xh,SV.le2,SV.le1,SV.le0],Jm⟩,Jm,rfl⟩
  .cases h
 .exact Bz
 .rintro⟨v,n⟩ a;refine X0a _ ?_;(repeat' first|constructor|intro h)<;>refine Lm ?_
  all_goals(first|rfl|skip)
def b9q:AH
 | [x,.clo g [c]]=>if g=205 then(match AC.as x with
   |some (n,f)=>(capN c).map λm=>(m.1/\AC.isL n f/\n<=100000,.int .i64 (PL (On m.2) (AC.lst n f)))
   |none=>none)else none
 |_=>none
def d41:Fam:=⟨List Int×Int,λ(l,m)=>[.sl 1 l.length (AC.row l) none,.clo 205 [Xh m]],λ(l,_)=>l.length<=100000,λ(l,m)=>.int .i64 (PL (On m) l)⟩
def g0i:List Int×Int->Nat->Option Inv
 |(l,m),2=>some {β:=Nat,ok:=λi=>i<=l.length/\∀j,j<i->On m (l.getD j 0)=false,st:=λi=>⟨[⟨8,none,.int .i64 i⟩,⟨7,none,.int .i64 l.length⟩,⟨1,none,.clo 205 [Xh m]⟩,⟨0,none,.sl 1 l.length (AC.row l) none⟩],[]⟩,μ:=λi=>l.length-i}
 |_,_=>none
theorem f9q:PS 206 b9q:=by
 refine con [(205,c01)] (by simpa using g4h) d41 g0i b9q ?_ ?_ Tryz.func206 E1 E1 E1 ?_
 .intro args pre s h a;unfold b9q at h;split at h
  .split at h
   .rename_i c;subst c;split at h
    .rename_i n f hx;simp only[Jq]at h;obtain⟨⟨q,m⟩,d,g⟩:=h;cases g;rw[c5q d a.1];exact⟨(AC.lst n f,m),⟨JL (AC.as_leL hx a.2.1),⟨rfl,rfl⟩,Jm⟩,by simp only[d41,RT.lst_length];exact a.2.2,rfl⟩
    .cases h
   .cases h
  .cases h
 .exact Bz
 .rintro⟨l,m⟩ a;replace a:l.length<=100000:=a;refine X0a _ ?_;(repeat' first|constructor|intro h)<;>refine Lm ?_
  refine⟨(0:Nat),⟨Jw _,λj hj=>Dz⟩,?_,?_⟩
  .exact X0d
  .intro i k;obtain⟨dj,br⟩:=k;refine X0a _ ?_;(repeat' first|constructor|intro h)<;>refine Lm ?_
   all_goals(try simp only[Ir]at*)
   all_goals(first
    |exact Ap
    |rfl
    |exact(c0m Dz br E5).symm
    |(refine⟨i+1,⟨Dz,λj hj=> ?_⟩,Ed,?_⟩)
    |exact Bq
    |skip)
   .by_cases e:j<i
    .exact br j e
    .have:j=i:=Dz;subst this;assumption
   .exact X0e
def c00:AH
 | [x,.clo g [c]]=>if g=205 then(match AC.as x with
   |some (n,f)=>(capN c).map λm=>(m.1/\AC.isL n f/\n<=100000,.bool ((AC.lst n f).any (On m.2)))
   |none=>none)else none
 |_=>none
def d79:Fam:=⟨List Int×Int,λ(l,m)=>[.sl 1 l.length (AC.row l) none,.clo 205 [Xh m]],λ(l,_)=>l.length<=100000,λ(l,m)=>.bool (l.any (On m))⟩
theorem g49:PS 153 c00:=by
 refine con [(206,b9q)] (by simpa using f9q) d79 (λ_ _=>none) c00 ?_ ?_ Tryz.func153 E1 E1 E1 ?_
 .intro args pre s h a;unfold c00 at h;split at h
  .split at h
   .rename_i b;subst b;split at h
    .rename_i n f hx;simp only[Jq]at h;obtain⟨⟨q,m⟩,c,d⟩:=h;cases d;rw[c5q c a.1];exact⟨(AC.lst n f,m),⟨JL (AC.as_leL hx a.2.1),⟨rfl,rfl⟩,Jm⟩,by simp only[d79,RT.lst_length];exact a.2.2,rfl⟩
    .cases h
   .cases h
  .cases h
 .exact Bz
 .rintro⟨l,m⟩ a;replace a:l.length<=100000:=a;refine X0a _ ?_;(repeat' first|constructor|intro h)<;>refine Lm ?_
  all_goals(try simp only[RT.lst_row]at*)
  all_goals(first
   |exact⟨Jm,AC.isL_row l,a⟩
   |exact b9f _ _
   |skip)
def BD(L:List Stk):List Int:=L.flatMap (·.l)
def Oe(n:Int)(L:List Stk)(i:Nat):Bool:=
 (!decide (BG (L.getD i AA.d).c.x (L.getD i AA.d).c.y (L.getD i AA.d).c.q=0)||decide (0<(i:Int))&&decide (0<=GM (L.getD ((i:Int)-1).toNat AA.d).c.x (L.getD ((i:Int)-1).toNat AA.d).c.y (L.getD ((i:Int)-1).toNat AA.d).c.q (L.getD i AA.d).c.x (L.getD i AA.d).c.y (L.getD i AA.d).c.q)||decide (((L.getD i AA.d).l.length:Int)=0))||(L.getD i AA.d).l.any (On n)
def LR:List Int->Bool
 | []=>false
 |x::l=>l.contains x||LR l
def MH(W H:Int)(L:List Stk):Int:=
 if AV W H=0 then(if(List.range L.length).any (Oe (CM W H) L)then 1 else if LR (BD L)then 8 else if((BD L).length:Int)<CM W H then 6 else 0)else AV W H
def IZ(L:List Stk)(i k:Nat):List Int:=BD (L.take i)++(L.getD i AA.d).l.take k
def c2z(W H:Int)(L:List Stk):Int:=if LR (BD L)then 8 else if((BD L).length:Int)<CM W H then 6 else 0
def c4z(W H:Int)(L:List Stk):Prop:=∀i,i<L.length->∀v∈(L.getD i AA.d).l,0<=v/\v<CM W H
def ownC(W H:Int)(l:List Int):List Blk:=[.cells 31 [.int .i64 W,.int .i64 H],.cells 3 [.int .i64 (CM W H)],.row 4 1 (CM W H).toNat (λj=>[.bool (l.contains (j:Int))]) none]
theorem c9m(L:List Stk)(i:Nat):IZ L i 0=BD (L.take i):=by simp[IZ]
theorem f15{L:List Stk}{i:Nat}(hi:i<L.length):IZ L i (L.getD i AA.d).l.length=IZ L (i+1) 0:=by
 rw[c9m];have:L.take (i+1)=L.take i++[L.getD i AA.d]:=by rw[Lz];simp[hi]
 simp[IZ,BD,this]
theorem c77{L:List Stk}{i k:Nat}(a:k<(L.getD i AA.d).l.length):IZ L i (k+1)=IZ L i k++[(L.getD i AA.d).l.getD k 0]:=by unfold IZ;rw[Lz,Mx];congr 1;rw[Jg (l:=(L.getD i AA.d).l),Jh a];simp
theorem d9w(L:List Stk):IZ L L.length 0=BD L:=by simp[c9m]
theorem d5q{L:List Stk}{i k:Nat}(hi:i<L.length):∃m,BD L=IZ L i k++m:=by
 have a:L=L.take i++L.getD i AA.d::L.drop (i+1):=by have:=List.take_append_drop i L;rw[List.drop_eq_getElem_cons hi]at this;simp[hi]
 refine⟨(L.getD i AA.d).l.drop k++BD (L.drop (i+1)),?_⟩;have b:BD L=BD (L.take i)++((L.getD i AA.d).l++BD (L.drop (i+1))):=by
  conv=>lhs;rw[a]
  simp[BD]
 rw[b];unfold IZ;rw[Mx,<-Mx (List.take k _),List.take_append_drop]
theorem c2y(l:List Int)(x:Int):LR (l++[x])=(LR l||l.contains x):=by
 induction l with
 |nil=>rfl
 |cons a r c=>
  simp only[Lx,LR,c,List.contains_cons];have:(r++[x]).contains a=(r.contains a||a==x):=by rw[Lw];simp
  rw[this];cases r.contains a<;>cases LR r<;>cases r.contains x<;>simp[BEq.comm (a:=a) (b:=x)]
theorem f14{l:List Int}(m:List Int)(h:LR l=true):LR (l++m)=true:=by
 induction l with
 |nil=>cases h
 |cons a r b=>
  simp only[Lx,LR,Kp]at h⊢;rcases h with h|h
  .left;simp at h⊢;exact .inl h
  .exact .inr (b h)
def b4x:AH
 | [x,.agg [.int .i64 W,.int .i64 H]]=>(LB x).map λq=>(q.1/\(∀s∈q.2,AD .u8 s.c.q)/\(BD q.2).length<=100000,.int .i64 (MH W H q.2))
 |_=>none
def f44:Fam:=⟨List Stk×Int×Int,λ(L,W,H)=>[EW L,.agg [.int .i64 W,.int .i64 H]],λ(L,_,_)=>CT L/\(∀s∈L,AD .u8 s.c.q)/\(BD L).length<=100000,λ(L,W,H)=>.int .i64 (MH W H L)⟩
def f0e:List Stk×Int×Int->Nat->Option Inv
 |(L,W,H),6=>some {β:=Nat,ok:=λi=>i<=L.length/\∀j,j<i->Oe (CM W H) L j=false,st:=λi=>⟨[⟨25,none,.int .i64 i⟩,⟨24,none,.int .i64 L.length⟩,⟨23,none,.sl 4 L.length (AA.row L) none⟩,⟨6,none,.own 1 0⟩,⟨4,none,.int .i64 0⟩,⟨0,none,.sl 4 L.length (AA.row L) none⟩],[.cells 31 [.int .i64 W,.int .i64 H],.cells 3 [.int .i64 (CM W H)]]⟩,μ:=λi=>L.length-i}
 |(L,W,H),15=>some {β:=Nat,ok:=λi=>i<=L.length/\LR (IZ L i 0)=false/\MH W H L=c2z W H L/\c4z W H L,st:=λi=>⟨[⟨68,none,.int .i64 i⟩,⟨67,none,.int .i64 L.length⟩,⟨66,none,.sl 4 L.length (AA.row L) none⟩,⟨11,none,.int .i64 (IZ L i 0).length⟩,⟨10,none,.osl 2⟩,⟨6,none,.own 1 0⟩,⟨4,none,.int .i64 0⟩],ownC W H (IZ L i 0)⟩,μ:=λi=>L.length-i,sub:=λi=>some fun|18=>some {β:=Nat,ok:=λk=>k<=(L.getD i AA.d).l.length/\LR (IZ L i k)=false,st:=λk=>⟨[⟨75,none,.int .i64 k⟩,⟨74,none,.int .i64 (L.getD i AA.d).l.length⟩,⟨73,none,.sl 1 (L.getD i AA.d).l.length (AC.row (L.getD i AA.d).l) none⟩,⟨68,none,.int .i64 i⟩,⟨67,none,.int .i64 L.length⟩,⟨66,none,.sl 4 L.length (AA.row L) none⟩,⟨11,none,.int .i64 (IZ L i k).length⟩,⟨10,none,.osl 2⟩,⟨6,none,.own 1 0⟩,⟨4,none,.int .i64 0⟩],ownC W H (IZ L i k)++[.cells 121 [.int .i64 (L.getD i AA.d).c.x,.int .i64 (L.getD i AA.d).c.y,.int .u8 (L.getD i AA.d).c.q,.sl 1 (L.getD i AA.d).l.length (AC.row (L.getD i AA.d).l) none]]⟩,μ:=λk=>(L.getD i AA.d).l.length-k}|_=>none}
 |_,_=>none
theorem f2j:PS 152 b4x:=by
 refine con [(86,Qi),(108,Wb),(65,Pf),(69,Sx),(153,c00)] (by simpa using⟨TE,c8c,Vu,b14,g49⟩) f44 f0e b4x ?_ ?_ Tryz.func152 E1 E1 E1 ?_
 .intro args pre s h a;unfold b4x at h;split at h
  .rename_i x W H;simp only[It]at h;obtain⟨⟨q,L⟩,hx,rfl,rfl⟩:=h;obtain⟨J,K⟩:=PC hx a.1;exact⟨(L,W,H),⟨J,Ee,Jm⟩,⟨K,a.2⟩,rfl⟩
  .cases h
 .exact Bz
 .rintro⟨L,W,H⟩ a;replace a:CT L/\(∀s∈L,AD .u8 s.c.q)/\(BD L).length<=100000:=a;have hc:0<=CM W H/\CM W H<=1024:=by
   unfold CM;split
   .have:=OB ‹_›;have e:4*W*H=4*(W*H):=Md _ _ _;omega
   .omega
  have hl:=a.1.1;refine X0a _ ?_;(repeat' first|constructor|intro h)<;>refine Lm ?_
  .have M:¬AV W H=0:=E6;unfold MH;rw[Jj M]
  .refine⟨(0:Nat),⟨Jw _,λj hj=>Dz⟩,?_,?_⟩
   .exact X0d
   .intro i t;obtain⟨N,g⟩:=t;have u:=Tz a.1 i;have hg2:=Tz a.1 (i-1);have w:∀k,AD .u8 (L.getD k AA.d).c.q:=λk=>by
     rw[Jg];cases y:L[k]? with
     |none=>exact(by simp only[AD];decide:AD .u8 0)
     |some s=>exact a.2.1 s (Jn y)
    refine X0a _ ?_;(repeat' first|constructor|intro h)<;>refine Lm ?_
    all_goals(try simp only[Ir,RT.lst_row]at*)
    all_goals(first
     |omega
     |exact u
     |exact⟨rfl,AC.isL_row _,u⟩
     |exact w _
     |exact Aw
     |exact Aq
     |exact A6
     |(rintro⟨_,hx⟩;have hx:=L0 hx;simp only[AD];omega)
     |(rintro⟨_,hx⟩;have hx:=L0 hx;omega)
     |(rintro⟨_,hx⟩;exact⟨w _,w _⟩)
     |skip)
    .have n:Oe (CM W H) L i=true:=E5;have hs:AV W H=0:=Ii;have:(List.range L.length).any (Oe (CM W H) L)=true:=K1.2 ⟨i,Kk.2 Dz,n⟩;unfold MH;rw[Ji hs,Ji this]
    .have n:Oe (CM W H) L i=false:=E5;refine⟨i+1,⟨Dz,λj hj=> ?_⟩,Dz,?_⟩
     .by_cases e:j<i
      .exact g j e
      .have:j=i:=Dz;subst this;exact n
     .exact X0e
    .refine⟨Dz,Dz,Rj E1 Dz Dz,Dz⟩
    .have hs:AV W H=0:=Ii;have O:(List.range L.length).any (Oe (CM W H) L)=false:=by
      rw[K2];intro j hj;have:=g j Hq;simp[this]
     have P:MH W H L=c2z W H L:=by unfold MH;rw[Ji hs,Jj (by simp[O])];rfl
     have Q:c4z W H L:=by intro j hj v o;have n:=g j Dz;unfold Oe at n;rw[M6]at n;have:=K2.1 n.2 v o;simp[On]at this;omega
     refine⟨(0:Nat),⟨Jw _,rfl,P,Q⟩,?_,?_⟩
     .exact X0e
     .intro i t;obtain⟨N,g,r,F⟩:=t;have u:=Tz a.1 i;refine X0a _ ?_;(repeat' first|constructor|intro h)<;>refine Lm ?_
      all_goals(try simp only[Ir]at*)
      all_goals(first
       |omega
       |exact Aw
       |skip)
      .have f:i<L.length:=Dz;refine⟨(0:Nat),⟨Jw _,g⟩,?_,?_⟩
       .exact X0e
       .intro k y;obtain⟨jb,G⟩:=y;obtain⟨m,R⟩:=d5q (k:=k) f;have S0:(IZ L i k).length<=100000:=by
         have:=a.2.2;rw[R,K8]at this;omega
        have o:k<(L.getD i AA.d).l.length->0<=(L.getD i AA.d).l.getD k AC.d/\(L.getD i AA.d).l.getD k AC.d<CM W H:=λh=>F i f _ (by rw[Jg (l:=(L.getD i AA.d).l),Jh h];exact Kj h)
        refine X0a _ ?_;(repeat' first|constructor|intro h)<;>refine Lm ?_
        all_goals(try simp only[Ir]at*)
        all_goals(first
         |omega
         |exact Aw
         |(have:=o Dz;omega)
         |(show ((L.getD i AA.d).l.getD k AC.d).toNat<(CM W H).toNat;have:=o Dz;omega)
         |skip)
        .have S:=o Dz;rw[show ((((L.getD i AA.d).l.getD k AC.d).toNat:Nat):Int)=(L.getD i AA.d).l.getD k AC.d from Dz]at*;obtain⟨T,U⟩:=d5q (k:=k+1) f;rw[r];unfold c2z;rw[Ji];rw[U];refine f14 T ?_;rw[c77 Dz,c2y];rw[Kp];right;assumption
        .have S:=o Dz;rw[show ((((L.getD i AA.d).l.getD k AC.d).toNat:Nat):Int)=(L.getD i AA.d).l.getD k AC.d from Dz]at*;have V:(IZ L i k).contains ((L.getD i AA.d).l.getD k AC.d)=false:=E5;have z:=c77 (L:=L) (i:=i) (k:=k) Dz;refine⟨k+1,⟨Dz,?_⟩,Dz,?_⟩
         .rw[z,c2y,G,Nm];exact V
         .refine X0a _ ?_;(repeat' first|constructor|intro h)<;>refine Lm ?_
          all_goals first
           |exact Az
           |(rw[z,K8];rfl)
           |skip
          intro j hj;rw[z];by_cases I:j=((L.getD i AA.d).l.getD k AC.d).toNat
          .have A:(j:Int)=(L.getD i AA.d).l.getD k AC.d:=Dz;have B:((IZ L i k)++[(L.getD i AA.d).l.getD k 0]).contains ((L.getD i AA.d).l.getD k AC.d)=true:=by
            rw[Ns,Ju,K6];exact .inr (Kb.2 rfl)
           rw[K3 I,A,B];rfl
          .have A:¬(j:Int)=(L.getD i AA.d).l.getD k AC.d:=Dz;rw[K4 I];have B:((IZ L i k)++[(L.getD i AA.d).l.getD k 0]).contains (j:Int)=(IZ L i k).contains (j:Int):=by
            rw[Lw];have X:¬(j:Int)=(L.getD i AA.d).l.getD k 0:=A;simp only[Ns,K6,Kb,Ju,X,or_false]
           rw[B];rfl
        .have C:k=(L.getD i AA.d).l.length:=Dz;subst C;have E:=f15 f;refine⟨i+1,⟨Dz,by rw[<-E];exact G,r,F⟩,Dz,?_⟩;refine X0a _ ?_;(repeat' first|constructor|intro h)<;>refine Lm ?_
         all_goals first
          |exact Az
          |(rw[E];done)
          |(intro j hj;rw[E];done)
          |skip
      .have f:i=L.length:=Dz;subst f;rw[d9w]at*;rw[r];unfold c2z;rw[Jj (by simp[g]),Ji E5]
      .have f:i=L.length:=Dz;subst f;rw[d9w]at*;rw[r];unfold c2z;rw[Jj (by simp[g]),Jj E5]
def capI:SV->Option (Prop×List Cl×Option Nat)
 |.rel 1 1 f 0 0=>match f 0 with
  | [.sl 3 n g a]=>some (f=(λ_=>[.sl 3 n g a])/\g=CJ.row (CJ.lst n g),CJ.lst n g,a)
  |_=>none
 |_=>none
def Uw(l:List Cl)(a:Option Nat):SV:=.rel 1 1 (λ_=>[.sl 3 l.length (CJ.row l) a]) 0 0
theorem c5s{s:SV}{q:Prop}{l:List Cl}{a:Option Nat}(h:capI s=some (q,l,a))(b:q):s=Uw l a:=by
 unfold capI at h;split at h
 .split at h
  .cases h;obtain⟨c,d⟩:=b;rw[c];unfold Uw;rw[RT.lst_length,<-d]
  .cases h
 .cases h
def YQ:SV->Option (Prop×Cl×SV)
 |.rel 4 1 f 0 0=>match f 0 with
  | [.int .i64 a,.int .i64 b,.int .u8 c,z]=>some (f=(λ_=>[.int .i64 a,.int .i64 b,.int .u8 c,z]),⟨a,b,c⟩,z)
  |_=>none
 |_=>none
def WN(c:Cl)(z:SV):SV:=.rel 4 1 (λ_=>[.int .i64 c.x,.int .i64 c.y,.int .u8 c.q,z]) 0 0
theorem c55{s:SV}{q:Prop}{c:Cl}{z:SV}(h:YQ s=some (q,c,z))(a:q):s=WN c z:=by
 unfold YQ at h;split at h
 .split at h
  .cases h;rw[a];rfl
  .cases h
 .cases h
def Ox(a:List Cl)(c:Cl)(v:Int):Bool:= !decide (a.getD v.toNat CJ.d=c)
def b9w:AH
 | [.int .i64 v,s,t]=>match capI s,YQ t with
   |some (q,a,_),some (b,c,_)=>some ((q/\b)/\0<=v/\v<a.length,.bool (Ox a c v))
   |_,_=>none
 |_=>none
def g3g:Fam:=⟨Int×(List Cl×Option Nat)×Cl×SV,λ(v,(a,b),c,z)=>[.int .i64 v,Uw a b,WN c z],λ(v,(a,_),_,_)=>0<=v/\v<a.length,λ(v,(a,_),c,_)=>.bool (Ox a c v)⟩
theorem g26:PS 154 b9w:=by
 refine con [] E2 g3g (λ_ _=>none) b9w ?_ ?_ Tryz.func154 E1 E1 E1 ?_
 .intro args pre s h a;unfold b9w at h;split at h
  .rename_i v x1 x2;split at h
   .rename_i q b d q' c z e f;cases h;rw[c5s e a.1.1,c55 f a.1.2];exact⟨(v,(b,d),c,z),⟨Ea,by simp[Uw,SV.le2,SV.le1,SV.le0],by simp[WN,SV.le2,SV.le1,SV.le0],Jm⟩,a.2,rfl⟩
   .cases h
  .cases h
 .exact C1
 .rintro⟨v,⟨b,d⟩,c,z⟩ a;replace a:0<=v/\v<b.length:=a;refine X0a _ ?_;(repeat' first|constructor|intro h)<;>refine Lm ?_
  all_goals(first
   |exact a
   |(show v.toNat<b.length;omega)
   |(simp only[Ox,clEq];done)
   |skip)
def c0d:AH
 | [x,.clo g [s,t]]=>if g=154 then(match AC.as x,capI s,YQ t with
   |some (n,f),some (q,a,_),some (b,c,_)=>some ((q/\b)/\(AC.isL n f/\n<=100000)/\∀v∈AC.lst n f,0<=v/\v<a.length,.int .i64 (PL (Ox a c) (AC.lst n f)))
   |_,_,_=>none)else none
 |_=>none
def f9j:Fam:=⟨List Int×(List Cl×Option Nat)×Cl×SV,λ(l,(a,b),c,z)=>[.sl 1 l.length (AC.row l) none,.clo 154 [Uw a b,WN c z]],λ(l,(a,_),_,_)=>l.length<=100000/\∀v∈l,0<=v/\v<a.length,λ(l,(a,_),c,_)=>.int .i64 (PL (Ox a c) l)⟩
def f8t:List Int×(List Cl×Option Nat)×Cl×SV->Nat->Option Inv
 |(l,(a,b),c,z),2=>some {β:=Nat,ok:=λi=>i<=l.length/\∀j,j<i->Ox a c (l.getD j 0)=false,st:=λi=>⟨[⟨8,none,.int .i64 i⟩,⟨7,none,.int .i64 l.length⟩,⟨1,none,.clo 154 [Uw a b,WN c z]⟩,⟨0,none,.sl 1 l.length (AC.row l) none⟩],[]⟩,μ:=λi=>l.length-i}
 |_,_=>none
theorem f99:PS 206 c0d:=by
 refine con [(154,b9w)] (by simpa using g26) f9j f8t c0d ?_ ?_ Tryz.func206 E1 E1 E1 ?_
 .intro args pre s h hp;unfold c0d at h;split at h
  .split at h
   .rename_i b;subst b;split at h
    .rename_i n f q im cp q' c z hx g k;cases h;rw[c5s g hp.1.1,c55 k hp.1.2];exact Dt
    .cases h
   .cases h
  .cases h
 .exact Bz
 .rintro⟨l,⟨im,cp⟩,c,z⟩ hp;replace hp:l.length<=100000/\∀v∈l,0<=v/\v<im.length:=hp;refine X0a _ ?_;(repeat' first|constructor|intro h)<;>refine Lm ?_
  refine⟨(0:Nat),⟨Jw _,λj hj=>Dz⟩,?_,?_⟩
  .exact X0d
  .intro i m;obtain⟨dj,br⟩:=m;have hv:i<l.length->0<=l.getD i AC.d/\l.getD i AC.d<im.length:=λh=>hp.2 _ (by
    rw[Jg,Jh h];exact Kj h)
   refine X0a _ ?_;(repeat' first|constructor|intro h)<;>refine Lm ?_
   all_goals(try simp only[Ir,RT.lst_row]at*)
   all_goals(first
    |exact Ap
    |rfl
    |exact⟨⟨⟨Jm,Jm⟩,Jm⟩,hv Dz⟩
    |exact Bn
    |exact(c0m Dz br E5).symm
    |(refine⟨i+1,⟨Dz,λj hj=> ?_⟩,Ed,?_⟩)
    |exact Bq
    |skip)
   .by_cases e:j<i
    .exact br j e
    .have:j=i:=Dz;subst this;assumption
   .exact X0e
def b9i:AH
 | [x,.clo g [s,t]]=>if g=154 then(match AC.as x,capI s,YQ t with
   |some (n,f),some (q,a,_),some (b,c,_)=>some ((q/\b)/\(AC.isL n f/\n<=100000)/\∀v∈AC.lst n f,0<=v/\v<a.length,.bool ((AC.lst n f).any (Ox a c)))
   |_,_,_=>none)else none
 |_=>none
def g2k:Fam:=⟨List Int×(List Cl×Option Nat)×Cl×SV,λ(l,(a,b),c,z)=>[.sl 1 l.length (AC.row l) none,.clo 154 [Uw a b,WN c z]],λ(l,(a,_),_,_)=>l.length<=100000/\∀v∈l,0<=v/\v<a.length,λ(l,(a,_),c,_)=>.bool (l.any (Ox a c))⟩
theorem g3e:PS 153 b9i:=by
 refine con [(206,c0d)] (by simpa using f99) g2k (λ_ _=>none) b9i ?_ ?_ Tryz.func153 E1 E1 E1 ?_
 .intro args pre s h hp;unfold b9i at h;split at h
  .split at h
   .rename_i a;subst a;split at h
    .rename_i n f q im cp q' c z hx b d;cases h;rw[c5s b hp.1.1,c55 d hp.1.2];exact Dt
    .cases h
   .cases h
  .cases h
 .exact Bz
 .rintro⟨l,⟨im,cp⟩,c,z⟩ hp;replace hp:l.length<=100000/\∀v∈l,0<=v/\v<im.length:=hp;refine X0a _ ?_;(repeat' first|constructor|intro h)<;>refine Lm ?_
  all_goals(try simp only[RT.lst_row]at*)
  all_goals(first
   |exact⟨⟨⟨Jm,Jm⟩,Jm⟩,⟨AC.isL_row l,hp.1⟩,hp.2⟩
   |exact⟨⟨⟨rfl,rfl⟩,rfl⟩,⟨AC.isL_row l,hp.1⟩,hp.2⟩
   |exact b9f _ _
   |skip)
theorem b8c{W H:Int}{L:List Stk}(h:MH W H L=0):AV W H=0/\(∀i,i<L.length->Oe (CM W H) L i=false)/\LR (BD L)=false/\CM W H<=(BD L).length:=by
 unfold MH at h;split at h
 .rename_i hs;split at h
  .cases h
  .rename_i a;split at h
   .cases h
   .rename_i b;split at h
    .cases h
    .refine⟨hs,λi c=> ?_,by simpa using b,Dz⟩;have:=K2.1 (by simpa using a:(List.range L.length).any (Oe (CM W H) L)=false) i (Kk.2 c);simpa using this
 .rename_i hs;exact absurd h hs
theorem c21{W H:Int}{L:List Stk}(h:∀i,i<L.length->Oe (CM W H) L i=false):c4z W H L:=by intro j b v c;have a:=h j b;unfold Oe at a;rw[M6]at a;have:=K2.1 a.2 v c;simp[On]at this;omega
theorem im_len{p:Pt}{r:Mv}(h:CH p r=0):((Al p r).length:Int)=CM p.W p.H:=by
 have c:BN p=0/\JM p=0:=by
  unfold CH at h;split at h
  .rename_i a;split at h
   .split at h
    .rename_i b;exact⟨a,b⟩
    .rename_i b;exact absurd h b
   .cases h
  .rename_i a;exact absurd h a
 have hs:=(FN c.1).1;have:=(c17 p).1 c.2;have:=(b0q h).1;have:=(b30 hs).2.2;omega
theorem b0p{p:Prop}[Decidable p]:((!decide p)=true)=¬p:=E2
theorem b0n{p:Prop}[Decidable p]:((!decide p)=false)=p:=E2
def Tb(a:List Cl)(s:Stk):Bool:=s.l.any (Ox a s.c)
def RQ(c:Cl)(e:Nat):Bool:= !decide (FU c.x c.y c.q e=0)
def Tq(s:Stk):Bool:=(List.range 3).any (RQ s.c)
def EO(p:Pt)(r:Mv)(L:List Stk):Int:=
 if CH p r=0 then(if MH p.W p.H L=0 then(if L.any (Tb (Al p r))then 6 else if L.any Tq then 3 else 0)else MH p.W p.H L)else CH p r
def DV(L:List Stk):Prop:=CT L/\(∀s∈L,AD .u8 s.c.q)/\(BD L).length<=100000
def b2h:AH
 | [x,y,z]=>match Ri [x,y],LB z with
   |some q,some s=>some (q.1/\s.1/\(∀t∈s.2,AD .u8 t.c.q)/\(BD s.2).length<=100000,.int .i64 (EO q.2.1 q.2.2 s.2))
   |_,_=>none
 |_=>none
def d4q:Fam:=⟨Pt×Mv×List Stk,λ(p,r,L)=>[KC p,Pb r,EW L],λ(p,r,L)=>prOK p r/\DV L,λ(p,r,L)=>.int .i64 (EO p r L)⟩
def d8d:Pt×Mv×List Stk->Nat->Option Inv
 |(p,r,L),8=>some {β:=Nat,ok:=λi=>i<=L.length/\∀j,j<i->Tb (Al p r) (L.getD j AA.d)=false,st:=λi=>⟨[⟨35,none,.int .i64 i⟩,⟨34,none,.int .i64 L.length⟩,⟨33,none,.sl 4 L.length (AA.row L) none⟩,⟨7,none,.own 2 0⟩,⟨6,none,.int .i64 0⟩,⟨2,none,.sl 4 L.length (AA.row L) none⟩],[.cells 34 [.int .i64 p.W,.int .i64 p.H,.sl 3 p.l.length (Eo p.l) none],.cells 36 [.int .u8 r.t,.int .i64 r.x,.int .i64 r.y],.cells 91 [.sl 3 (Al p r).length (CJ.row (Al p r)) none]]⟩,μ:=λi=>L.length-i}
 |(_,_,L),14=>some {β:=Nat,ok:=λi=>i<=L.length/\∀j,j<i->Tq (L.getD j AA.d)=false,st:=λi=>⟨[⟨46,none,.int .i64 i⟩,⟨45,none,.int .i64 L.length⟩,⟨44,none,.sl 4 L.length (AA.row L) none⟩,⟨6,none,.int .i64 0⟩],[]⟩,μ:=λi=>L.length-i,sub:=λi=>some fun|17=>some {β:=Nat,ok:=λk=>k<=3/\∀j,j<k->RQ (L.getD i AA.d).c j=false,st:=λk=>⟨[⟨50,none,.int .u8 k⟩,⟨13,none,.own 0 0⟩,⟨46,none,.int .i64 i⟩,⟨45,none,.int .i64 L.length⟩,⟨44,none,.sl 4 L.length (AA.row L) none⟩,⟨6,none,.int .i64 0⟩],[.cells 121 [.int .i64 (L.getD i AA.d).c.x,.int .i64 (L.getD i AA.d).c.y,.int .u8 (L.getD i AA.d).c.q,.sl 1 (L.getD i AA.d).l.length (AC.row (L.getD i AA.d).l) none]]⟩,μ:=λk=>3-k}|_=>none}
 |_,_=>none
theorem d7q:PS 107 b2h:=by
 refine con [(29,WF),(152,b4x),(153,b9i),(91,VA)] (by simpa using⟨c0b,f2j,g3e,b01⟩) d4q d8d b2h ?_ ?_ Tryz.func107 E1 E1 E1 ?_
 .intro args pre s h hp;unfold b2h at h;split at h
  .rename_i x y z;split at h
   .rename_i q t f g;cases h;obtain⟨q,p,r⟩:=q;obtain⟨u,L⟩:=t;obtain⟨a1,a2⟩:=c19 f hp.1;obtain⟨b1,b2⟩:=PC g hp.2.1;exact Du
   .cases h
  .cases h
 .exact C1
 .rintro⟨p,r,L⟩ ⟨bm,m⟩;have hl:=m.1.1;refine X0a _ ?_;(repeat' first|constructor|intro h)<;>refine Lm ?_
  all_goals(try simp only[CE,RT.lst_row]at*)
  all_goals(try simp only[b0p,b0n]at*)
  all_goals(first
   |exact B5
   |exact⟨MS L m.1,m.2⟩
   |skip)
  .have f:¬CH p r=0:=E5;unfold EO;rw[Jj f]
  .have f:CH p r=0:=E5;have g:¬MH p.W p.H L=0:=E5;unfold EO;rw[Ji f,Jj g]
  .have f:CH p r=0:=E5;have g:MH p.W p.H L=0:=E5;have F:=c21 (b8c g).2.1;have h4:=im_len f;have hx:EO p r L=if L.any (Tb (Al p r))then 6 else if L.any Tq then 3 else 0:=by
    unfold EO;rw[Ji f,Ji g]
   refine⟨(0:Nat),⟨Jw _,λj hj=>Dz⟩,?_,?_⟩
   .exact X0d
   .intro i n;obtain⟨G,o⟩:=n;have C:=Tz m.1 i;have I:i<L.length->∀v∈(L.getD i AA.d).l,0<=v/\v<(Al p r).length:=λn v J=>by
     have:=F i n v J;omega
    refine X0a _ ?_;(repeat' first|constructor|intro h)<;>refine Lm ?_
    all_goals(try simp only[Ir,RT.lst_row]at*)
    all_goals(first
     |exact Ap
     |skip)
    .refine⟨⟨⟨rfl,?_⟩,rfl⟩,⟨AC.isL_row _,C⟩,I Dz⟩;first|trivial|rfl|(rw[RT.lst_row])
    .have b:Tb (Al p r) (L.getD i AA.d)=true:=E5;rw[hx,Ji];refine K1.2 ⟨L.getD i AA.d,?_,b⟩;rw[Jg,Jh Dz];exact Kj _
    .have b:Tb (Al p r) (L.getD i AA.d)=false:=E5;refine⟨i+1,⟨Dz,λj hj=> ?_⟩,Dz,?_⟩
     .by_cases e:j<i
      .exact o j e
      .have:j=i:=Dz;subst this;exact b
     .exact X0e
    .have A:L.any (Tb (Al p r))=false:=by
      rw[K2];intro s hs;obtain⟨j,hj,rfl⟩:=Kg.1 hs;have:=o j Dz;rw[Jg,Jh hj]at this;simpa using this
     rw[Jj (by simp[A])]at hx;refine⟨(0:Nat),⟨Jw _,λj hj=>Dz⟩,?_,?_⟩
     .exact X0e
     .intro i n;obtain⟨G,o⟩:=n;have C:=Tz m.1 i;have w:0<=(L.getD i AA.d).c.q/\(L.getD i AA.d).c.q<=255:=by
       rw[Jg];cases B:L[i]? with
       |none=>exact(by decide:(0:Int)<=0/\(0:Int)<=255)
       |some s=>exact m.2.1 s (Jn B)
      refine X0a _ ?_;(repeat' first|constructor|intro h)<;>refine Lm ?_
      all_goals(try simp only[Ir]at*)
      all_goals(first
       |exact Ap
       |skip)
      .refine⟨(0:Nat),⟨Jw _,λj hj=>Dz⟩,?_,?_⟩
       .exact X0e
       .intro k B;obtain⟨jb,E⟩:=B;refine X0a _ ?_;(repeat' first|constructor|intro h)<;>refine Lm ?_
        all_goals(try simp only[Ir,b0p,b0n]at*)
        all_goals(first
         |omega
         |exact⟨w,F0⟩
         |exact⟨w.1,w.2,Dz,Dz⟩
         |exact⟨w,Dz,Dz⟩
         |exact A6
         |skip)
        .have b:RQ (L.getD i AA.d).c k=true:=by
          have:¬FU (L.getD i AA.d).c.x (L.getD i AA.d).c.y (L.getD i AA.d).c.q (k:Int)=0:=E5;unfold RQ;rw[b0p];exact this
         rw[hx,Ji];refine K1.2 ⟨L.getD i AA.d,?_,K1.2 ⟨k,Kk.2 Dz,b⟩⟩;rw[Jg,Jh Dz];exact Kj _
        .have b:RQ (L.getD i AA.d).c k=false:=by
          have:FU (L.getD i AA.d).c.x (L.getD i AA.d).c.y (L.getD i AA.d).c.q (k:Int)=0:=E5;unfold RQ;rw[b0n];exact this
         refine⟨k+1,⟨Dz,λj hj=> ?_⟩,Dz,?_⟩
         .by_cases e:j<k
          .exact E j e
          .have:j=k:=Dz;subst this;exact b
         .exact X0e
        .have b:Tq (L.getD i AA.d)=false:=by
          unfold Tq;rw[K2];intro j hj;have:=E j Hq;rw[this];exact Ng
         refine⟨i+1,⟨Dz,λj hj=> ?_⟩,Dz,?_⟩
         .by_cases e:j<i
          .exact o j e
          .have:j=i:=Dz;subst this;exact b
         .exact X0e
      .have A:L.any Tq=false:=by
        rw[K2];intro s hs;obtain⟨j,hj,rfl⟩:=Kg.1 hs;have:=o j Dz;rw[Jg,Jh hj]at this;simpa using this
       rw[hx,Jj (by simp[A])]
end Go.Proofs.YtlffhjfkaepimaaGreatDoor.V
